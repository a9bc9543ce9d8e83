import PyProof.Rows.All
import Wide.All
import OpenK.AllK
import Wide.FinOn
import KE.GoesNew
import HandS.ForMost
import HandS.ForExc
import HandS.Walk
import HandS.IsInst
import HandS.Lambda
import HandS.EndTab
import HandS.ExcInit
import HandS.ExcField
import HandS.StrMore
import HandS.Zip
import HandS.Style
import HandS.Conv
import PySem.Challenge.RW_nestfile_k19_elements_that_are_no_bytes
set_option Elab.async false
set_option linter.all false
set_option maxRecDepth 100000
set_option maxHeartbeats 4000000
/-! Rules of my own beside the hand layer: pairs handed out by enumerate and zip over tuples and texts; a text's slice with a step; a try with several clauses, some with a name. -/
namespace G58
open PySem PySem.Spec PyProof.Rows L2

/-! ### new pairs, handed out one by one -/
/-- n pairs while g stands; the i-th one is told by yv -/
def ItP (n : Nat) (g : Hp → Prop) (yv : Nat → V → V → Prop) : It where
  go := fun i H => i < n ∧ g H
  yld := fun i H v H' => ∃ T x y, v = .ref T ∧ H T = none ∧ H' = upd H T (.tup [x, y]) ∧ yv i x y
  stop := fun i H => i = n ∧ g H
theorem walkP {n : Nat} {g : Hp → Prop} {yv : Nat → V → V → Prop} :
    Walk (ItP n g yv) n g (fun i H v H' => ∃ T x y, v = .ref T ∧ H T = none ∧ H' = upd H T (.tup [x, y]) ∧ yv i x y) :=
  ⟨fun _ _ hi q => ⟨hi, q⟩, fun _ q => ⟨rfl, q⟩, fun _ _ _ _ _ _ y => y⟩
/-- what an iterator of pairs owes in a context -/
def PairsIn (X : Cx) (tg : Expr) (I : Addr) (fpA : List Addr) (n : Nat) (yv : Nat → V → V → Prop) (tn : Nat → Heap → Prop) (h0 : Heap) : Prop :=
  ∃ (fp wr : List Addr) (Y : Nat → Heap → Value → Heap → Prop) (St : Nat → Heap → Prop),
    GoesN X.prog X.w X.A tg I fp wr n Y St ∧ (∀ b ∈ wr, b ∈ fpA) ∧ (∀ i, tn i h0 → St i h0) ∧ (∀ i h, St i h → tn i h) ∧
    ∀ i ha v hb, Y i ha v hb → ∃ (T : Addr) (x y : V) (u1 u2 : Value), v = .ref T ∧ ha.objs.size ≤ T ∧ RelV x u1 ∧ RelV y u2 ∧ yv i x y ∧ hb.IsTuple T #[u1, u2]
theorem turnP {P : Program} {w : World} {K : PySem.W.Frag} {tg : Expr} {I : Addr} {fpA : List Addr} {n : Nat} {g : Hp → Prop} {yv : Nat → V → V → Prop} {tn : Nat → Heap → Prop}
    (mem : I ∈ fpA) (obj : ∀ i h, tn i h → ∀ b ∈ fpA, ∃ o, h.get? b = some o ∧ ∀ v, o.data ≠ .cell v)
    (keep : ∀ i h h', tn i h → (∀ b ∈ fpA, ∀ o, h.get? b = some o → h'.get? b = some o) → tn i h')
    (mk : ∀ (X : Cx), X.prog = P → X.w = w → X.K = K → X.calm = true → ∀ (i : Nat) (pins : List (Addr × Obj)) (s : Shared) (σ : L2.St) (H : Hp), Inv X pins σ H s → g H → tn i s.heap → PairsIn X tg I fpA n yv tn s.heap)
    (self : ∀ (A : Around) (i : Nat) (s : Shared) (Q : Value → Shared → Prop) (E : Value → Shared → Prop), tn i s.heap → Q (.ref I) s → wpAny (model P w) A (pyIter (.ref I)) Q E s) :
    Turn P w K tg (ItP n g yv) fpA I tn where
  mem := mem
  obj := obj
  keep := keep
  item := by
    intro X hP hw hK hc i pins s σ H E Iv hf st hg
    obtain ⟨fp, wr, Y, St, W, hwr, toS, ofS, hy⟩ := mk X hP hw hK hc i pins s σ H Iv hg.2 st
    subst hP hw hK
    refine W.goes i s _ E hg.1 (toS i st) fun v h' tk hY st' hk _ => ?_
    obtain ⟨T, x, y, u1, u2, ev, hT, r1, r2, hyv, htup⟩ := hy i _ v h' hY
    have new : ObjOk X.prog X.w (upd H T (.tup [x, y])) h' T (.tup [x, y]) := ⟨by show 2 ≤ sizeLine; decide, [u1, u2], .cons r1 (.cons r2 .nil), htup⟩
    have fpo : ∀ b ∈ wr, FpOk X pins H b := fun b hb => hf b (hwr b hb)
    refine ⟨.ref T, _, Iv.turnedNew (ch := wr) hk fpo hT new, ev, ⟨T, x, y, rfl, Iv.hok.fresh hT, rfl, hyv⟩, ofS _ _ st', fun b hb => ?_⟩
    obtain ⟨o, ho, _⟩ := obj i _ st b hb
    rw [upd_ne (Nat.ne_of_lt (Nat.lt_of_lt_of_le (Heap.lt_size ho) hT))]
    exact (hf b hb).1
  done := by
    intro X hP hw hK hc i pins s σ H E Iv hf st hg
    obtain ⟨fp, wr, Y, St, W, hwr, toS, ofS, hy⟩ := mk X hP hw hK hc i pins s σ H Iv hg.2 st
    subst hP hw hK
    obtain ⟨rfl, _⟩ := hg
    refine W.stops s _ E (toS i st) fun h' tk hk _ => ?_
    exact Iv.turnedL (ch := wr) hk fun b hb => hf b (hwr b hb)
  self := self
theorem pi_or {X : Cx} {tg it : Expr} {w1 w2 : TI} (h1 : PI X tg it w1) (h2 : PI X tg it w2) : PI X tg it (fun σ H R => w1 σ H R ∨ w2 σ H R) :=
  ⟨fun pins s σ H R Iv h => h.elim (h1.run pins s σ H R Iv) (h2.run pins s σ H R Iv)⟩

/-! ### enumerate(v), one argument, any v -/
set_option maxHeartbeats 1000000 in
theorem meets_enum1 {v : Value} {o : Obj} {G : Heap → Prop} (B : Begins v o G) :
    Meets (Builtin.«enumerate.__new__» ⟨[.type "enumerate", v], []⟩) (fun _ R s => G s.heap ∧
      R (.ok (.ret (.ref (s.heap.push o).objs.size))) { s with heap := (s.heap.push o).push { cls := .type "enumerate", data := .fields #[.none, .bool false, .ref s.heap.objs.size, rawInt 0, .none, .none] } }) :=
  .of_wp fun prog w A R s h => by
    obtain ⟨hp, gn, dr, tk, os⟩ := s
    obtain ⟨g1, h⟩ := h
    have hsub := sub_enumerate
    have go : ∀ {A' : Around} {E : Value → Shared → Prop} {Q : Value → Shared → Prop}, Q (.ref hp.objs.size) ⟨hp.push o, gn, dr, tk, os⟩ → wpAny (model prog w) A' (pyIter v) Q E ⟨hp, gn, dr, tk, os⟩ :=
      fun q => B.iter prog w _ _ ⟨hp, gn, dr, tk, os⟩ _ g1 q
    wp_walk using go
    refine wpAny_stack_any fun st => wpAny_pure ?_
    split
    · rename_i c _ _ _ _ _
      cases (c == Value.type "enumerate")
      all_goals
        wp_walk using go
        exact ⟨_, rfl, h⟩
    · wp_walk using go
      exact ⟨_, rfl, h⟩
theorem call_enum1 {prog : Program} {w : World} {A : Around} {E : Value → Shared → Prop} {s : Shared} {v : Value} {o : Obj} {G : Heap → Prop} {Q : Value → Shared → Prop} (B : Begins v o G) (g1 : G s.heap)
    (h : ∀ h', IsEnum h' (s.heap.objs.size + 1) s.heap.objs.size 0 .none → h'.get? s.heap.objs.size = some o → (∀ b u, s.heap.get? b = some u → h'.get? b = some u) → Q (.ref (s.heap.objs.size + 1)) { s with heap := h' }) :
    wpAny (model prog w) A (call (.type "enumerate") [v]) Q E s := by
  refine callType_new F.called_enumerate (by decide) (F.typeCall_enumerate_1 _) (F.newCall_enumerate_1 _) (fun obj => F.args_object_init_2 obj _) F.entry_enumerate_new (meets_enum1 B) ⟨g1, ?_⟩
  have hz : (s.heap.push o).objs.size = s.heap.objs.size + 1 := Heap.size_push ..
  show _ ∧ _
  rw [hz]
  have he : IsEnum ((s.heap.push o).push { cls := .type "enumerate", data := .fields #[.none, .bool false, .ref s.heap.objs.size, rawInt 0, .none, .none] }) (s.heap.objs.size + 1) s.heap.objs.size 0 .none := by
    have q := Heap.get?_push_size (s.heap.push o) (o := { cls := .type "enumerate", data := .fields #[.none, .bool false, .ref s.heap.objs.size, rawInt 0, .none, .none] }) rfl
    rw [hz] at q
    exact q
  exact ⟨⟨_, he, rfl⟩, h _ he (Heap.get?_push_of_some _ (Heap.get?_push_size _ B.free)) fun b u x => Heap.get?_push_of_some _ (Heap.get?_push_of_some _ x)⟩

/-! ### enumerate over a tuple -/
theorem turn_enumT {P : Program} {w : World} {K : PySem.W.Frag} {elts : List Expr} {kk : Nat} {tpos : Pos} {xs : List V} (a e it : Addr) :
    Turn P w K (.Tuple elts kk tpos) (ItP xs.length (fun H => SqT K H a xs) (fun i x y => x = .int (i : Nat) ∧ xs[i]? = some y)) [e, it] e
      (fun i h => (∃ old, IsEnum h e it (0 + (i : Int)) old) ∧ h.IsTupleIter it a i ∧ e ≠ it) := by
  refine turnP (by simp) (fun i h st b hb => ?_) (fun i h h' st k => ?_) (fun X hP hw hK hc i pins s σ H Iv hq st => ?_) (fun A i s Q E st q => ?_)
  · obtain ⟨⟨old, he⟩, ⟨o, ho, hc, hd⟩, _⟩ := st
    have z : b = e ∨ b = it := by simpa using hb
    rcases z with z | z
    · rw [z]; exact ⟨_, he, fun v q => nomatch q⟩
    · rw [z]; exact ⟨o, ho, fun v q => by rw [hd] at q; cases q⟩
  · obtain ⟨⟨old, he⟩, hi, hne⟩ := st
    exact ⟨⟨old, k e (by simp) _ he⟩, hi.at fun o q => k it (by simp) o q, hne⟩
  · subst hP hw hK
    obtain ⟨⟨old, he⟩, hit, hne⟩ := st
    obtain ⟨its, rv, p, hz⟩ := Iv.tuple hq
    have pT : s.heap.IsTuple a its.toArray := p
    have hlen := rv.length
    have n1 : a ≠ it := fun z => by
      obtain ⟨o, ho, hcl, _⟩ := hit
      obtain ⟨o', ho', hcl', _⟩ := pT
      rw [z, ho] at ho'
      cases ho'
      rw [hcl] at hcl'
      exact absurd (Value.type.inj hcl') (by decide)
    have n2 : e ≠ a := fun z => by
      obtain ⟨o', ho', hcl', _⟩ := pT
      have he' : s.heap.get? e = some _ := he
      rw [z, ho'] at he'
      cases he'
      exact absurd (Value.type.inj hcl') (by decide)
    have D : Draws X.prog X.w X.A.in1 it [it, a] its.toArray.size (fun i v => its.toArray[i]? = some v) (fun i h => h.IsTupleIter it a i ∧ h.IsTuple a its.toArray) := Draws.tuple (A := X.A.in1) (show X.A.in1.handled = none from Iv.ok.hd hc) it a n1 its.toArray
    have W := GoesN.enumFrom (elts := elts) (x1 := kk) (pos := tpos) 0 D e hne (fun z => by
      rcases List.mem_cons.mp z with q | q
      · exact hne q
      · exact n2 (List.mem_singleton.mp q)) (by simp)
    have en : its.toArray.size = xs.length := by rw [List.size_toArray]; exact hlen.symm
    rw [en] at W
    refine ⟨_, _, _, _, W, fun b hb => hb, fun j q => ?_, fun j h q => ?_, fun j ha v hb q => ?_⟩
    · exact ⟨q.1, q.2.1, pT⟩
    · exact ⟨q.1, q.2.1, hne⟩
    · obtain ⟨T, t, u, ev, hT, hu, htup⟩ := q
      have hl : j < xs.length := by
        have z := (Array.getElem?_eq_some_iff.mp hu).1
        rw [en] at z
        exact z
      obtain ⟨u', hu', ru⟩ := rv.get (x := xs[j]) (i := j) (by simp [hl])
      have eu : u' = u := by
        have z : its.toArray[j]? = some u' := by simpa using hu'
        rw [z] at hu
        exact Option.some.inj hu
      subst eu
      refine ⟨T, .int (j : Nat), xs[j], .int (0 + (j : Int)) t, u', ev, hT, ⟨t, ?_⟩, ru, ⟨rfl, by simp [hl]⟩, htup⟩
      rw [Int.zero_add]
  · obtain ⟨⟨old, he⟩, _⟩ := st
    exact wpAny_pyIter_enum he q
/-- for i, x in enumerate(t), t a tuple -/
def iEnumT (K : PySem.W.Frag) (ta : TA) : TI := fun σ H R => ta σ H fun vs H1 => ∃ a xs, vs = [.ref a] ∧ SqT K H1 a xs ∧ R (ItP xs.length (fun H => SqT K H a xs) (fun i x y => x = .int (i : Nat) ∧ xs[i]? = some y)) H1
theorem pi_enumT {X : Cx} {e : Expr} {ta : TA} {p pos tpos : Pos} {elts : List Expr} {kk : Nat} (hg : Gl X "enumerate") (hm : X.mg "enumerate" = none) (ha : PA X [e] ta)
    (hs : starEach [e] X.env = [(false, eval e X.env)] := by rfl) : PI X (.Tuple elts kk tpos) (.Call (.Name "enumerate" p) [e] [] pos) (iEnumT X.K ta) := by
  refine ⟨fun pins s σ H R Iv h => ?_⟩
  refine Call_ (ld_blt Iv hg hm boot_enumerate (PyProof.Rows.callWith_type1 (thn (ha.run pos pins s σ H _ Iv h) fun us s1 ⟨vs, H1, I1, r1, q1⟩ => ?_) hs rfl))
  obtain ⟨a, xs, ex, hq, q⟩ := q1
  subst ex
  obtain ⟨u, rfl, ru⟩ := vals1 r1
  obtain rfl : u = Value.ref a := ru
  obtain ⟨its, rv, p', hz⟩ := I1.tuple hq
  have pT : s1.heap.IsTuple a its.toArray := p'
  refine call_enum1 (begins_tuple a its.toArray) pT fun h' he hit hk => wpAny_pyIter_enum he ?_
  have I2 : Inv X pins σ H1 { s1 with heap := h' } := I1.kept (t' := s1.toks) hk
  refine ⟨s1.heap.objs.size + 1, [s1.heap.objs.size + 1, s1.heap.objs.size], _, _, H1, rfl, I2, turn_enumT a (s1.heap.objs.size + 1) s1.heap.objs.size, ⟨⟨.none, he⟩, ⟨_, hit, rfl, rfl⟩, Nat.succ_ne_self _⟩, fun b hb => ?_, q⟩
  have z : b = s1.heap.objs.size + 1 ∨ b = s1.heap.objs.size := by simpa using hb
  have hle : s1.heap.objs.size ≤ b := by
    rcases z with z | z <;> rw [z]
    · exact Nat.le_add_right _ _
    · exact Nat.le_refl _
  exact I1.fpOk hle (I1.hok.fresh hle)

/-! ### enumerate over a text -/
/-- the text of one sign -/
abbrev sgn (c : Nat) : Str := ⟨#[c]⟩
theorem turn_enumS {P : Program} {w : World} {K : PySem.W.Frag} {elts : List Expr} {kk : Nat} {tpos : Pos} (z : Str) (t : Tok) (e it : Addr) :
    Turn P w K (.Tuple elts kk tpos) (ItP z.cps.size (fun _ => True) (fun i x y => x = .int (i : Nat) ∧ ∃ c, z.cps[i]? = some c ∧ y = .str (sgn c))) [e, it] e
      (fun i h => (∃ old, IsEnum h e it (0 + (i : Int)) old) ∧ h.IsStrIter it (strIterType z) z t i ∧ e ≠ it) := by
  refine turnP (by simp) (fun i h st b hb => ?_) (fun i h h' st k => ?_) (fun X hP hw hK hc i pins s σ H Iv hq st => ?_) (fun A i s Q E st q => ?_)
  · obtain ⟨⟨old, he⟩, ⟨o, ho, hc, hd⟩, _⟩ := st
    have y : b = e ∨ b = it := by simpa using hb
    rcases y with y | y
    · rw [y]; exact ⟨_, he, fun v q => nomatch q⟩
    · rw [y]; exact ⟨o, ho, fun v q => by rw [hd] at q; cases q⟩
  · obtain ⟨⟨old, he⟩, ⟨o, ho, r⟩, hne⟩ := st
    exact ⟨⟨old, k e (by simp) _ he⟩, ⟨o, k it (by simp) o ho, r⟩, hne⟩
  · subst hP hw hK
    obtain ⟨⟨old, he⟩, hit, hne⟩ := st
    have D := Draws.text (prog := X.prog) (w := X.w) (A := X.A.in1) (Iv.ok.hd hc) it z t
    have W := GoesN.enumFrom (elts := elts) (x1 := kk) (pos := tpos) 0 D e hne (fun y => hne (List.mem_singleton.mp y)) (by simp)
    refine ⟨_, _, _, _, W, fun b hb => hb, fun j q => ⟨q.1, q.2.1⟩, fun j h q => ⟨q.1, q.2, hne⟩, fun j ha v hb q => ?_⟩
    obtain ⟨T, tk, u, ev, hT, ⟨c, tc, hc', rfl⟩, htup⟩ := q
    refine ⟨T, .int (j : Nat), .str (sgn c), .int (0 + (j : Int)) tk, .str ⟨#[c]⟩ tc, ev, hT, ⟨tk, ?_⟩, ⟨tc, rfl⟩, ⟨rfl, c, hc', rfl⟩, htup⟩
    rw [Int.zero_add]
  · obtain ⟨⟨old, he⟩, _⟩ := st
    exact wpAny_pyIter_enum he q
def iEnumS (ta : TA) : TI := fun σ H R => ta σ H fun vs H1 => ∃ z : Str, vs = [.str z] ∧ R (ItP z.cps.size (fun _ => True) (fun i x y => x = .int (i : Nat) ∧ ∃ c, z.cps[i]? = some c ∧ y = .str (sgn c))) H1
theorem pi_enumS {X : Cx} {e : Expr} {ta : TA} {p pos tpos : Pos} {elts : List Expr} {kk : Nat} (hg : Gl X "enumerate") (hm : X.mg "enumerate" = none) (ha : PA X [e] ta)
    (hs : starEach [e] X.env = [(false, eval e X.env)] := by rfl) : PI X (.Tuple elts kk tpos) (.Call (.Name "enumerate" p) [e] [] pos) (iEnumS ta) := by
  refine ⟨fun pins s σ H R Iv h => ?_⟩
  refine Call_ (ld_blt Iv hg hm boot_enumerate (PyProof.Rows.callWith_type1 (thn (ha.run pos pins s σ H _ Iv h) fun us s1 ⟨vs, H1, I1, r1, q1⟩ => ?_) hs rfl))
  obtain ⟨z, ex, q⟩ := q1
  subst ex
  obtain ⟨u, rfl, ru⟩ := vals1 r1
  obtain ⟨t, rfl⟩ := ru
  refine call_enum1 (begins_text z t) True.intro fun h' he hit hk => wpAny_pyIter_enum he ?_
  have I2 : Inv X pins σ H1 { s1 with heap := h' } := I1.kept (t' := s1.toks) hk
  refine ⟨s1.heap.objs.size + 1, [s1.heap.objs.size + 1, s1.heap.objs.size], _, _, H1, rfl, I2, turn_enumS z t (s1.heap.objs.size + 1) s1.heap.objs.size, ⟨⟨.none, he⟩, ⟨_, hit, rfl, rfl⟩, Nat.succ_ne_self _⟩, fun b hb => ?_, q⟩
  have y : b = s1.heap.objs.size + 1 ∨ b = s1.heap.objs.size := by simpa using hb
  have hle : s1.heap.objs.size ≤ b := by
    rcases y with y | y <;> rw [y]
    · exact Nat.le_add_right _ _
    · exact Nat.le_refl _
  exact I1.fpOk hle (I1.hok.fresh hle)

/-! ### zip of two texts -/
def zipY (y z : Str) : Nat → V → V → Prop := fun i u v => ∃ c d, y.cps[i]? = some c ∧ z.cps[i]? = some d ∧ u = .str (sgn c) ∧ v = .str (sgn d)
theorem turn_zipS {P : Program} {w : World} {K : PySem.W.Frag} {elts : List Expr} {kk : Nat} {tpos : Pos} (y z : Str) (t1 t2 : Tok) (N : Nat) :
    Turn P w K (.Tuple elts kk tpos) (ItP (min y.cps.size z.cps.size) (fun _ => True) (zipY y z)) [N + 4, N + 2, N + 3, N, N + 1] (N + 4)
      (fun i h => IsZip h (N + 4) (N + 2) (N + 3) .none ∧ IsTupOf2 h (N + 2) (.ref N) (.ref (N + 1)) ∧ (∃ a1 a2, IsTupOf2 h (N + 3) a1 a2) ∧ h.IsStrIter N (strIterType y) y t1 i ∧ h.IsStrIter (N + 1) (strIterType z) z t2 i) := by
  refine turnP (by simp) (fun i h st b hb => ?_) (fun i h h' st k => ?_) (fun X hP hw hK hc i pins s σ H Iv hq st => ?_) (fun A i s Q E st q => wpAny_pyIter_zip st.1 q)
  · obtain ⟨hz, hTI, ⟨a1, a2, hTO⟩, ⟨o1, e1, _, d1⟩, ⟨o2, e2, _, d2⟩⟩ := st
    have m : b = N + 4 ∨ b = N + 2 ∨ b = N + 3 ∨ b = N ∨ b = N + 1 := by simpa using hb
    rcases m with m | m | m | m | m <;> rw [m]
    · exact ⟨_, hz, fun v q => nomatch q⟩
    · exact ⟨_, hTI, fun v q => nomatch q⟩
    · exact ⟨_, hTO, fun v q => nomatch q⟩
    · exact ⟨o1, e1, fun v q => by rw [d1] at q; cases q⟩
    · exact ⟨o2, e2, fun v q => by rw [d2] at q; cases q⟩
  · obtain ⟨hz, hTI, ⟨a1, a2, hTO⟩, ⟨o1, e1, r1⟩, ⟨o2, e2, r2⟩⟩ := st
    exact ⟨k _ (by simp) _ hz, k _ (by simp) _ hTI, ⟨a1, a2, k _ (by simp) _ hTO⟩, ⟨o1, k _ (by simp) _ e1, r1⟩, ⟨o2, k _ (by simp) _ e2, r2⟩⟩
  · subst hP hw hK
    have D1 := Draws.text (prog := X.prog) (w := X.w) (A := X.A.in1) (Iv.ok.hd hc) N y t1
    have D2 := Draws.text (prog := X.prog) (w := X.w) (A := X.A.in1) (Iv.ok.hd hc) (N + 1) z t2
    have S : ZipSep2 (N + 4) (N + 2) (N + 3) N (N + 1) [N] [N + 1] := zip_sep2 (fp1 := []) (fp2 := []) (fun b hb => nomatch hb) (fun b hb => nomatch hb)
    have W := GoesN.zip2 (elts := elts) (x1 := kk) (pos := tpos) S D1 D2
    refine ⟨_, _, _, _, W, fun b hb => ?_, fun j q => q, fun j h q => q, fun j ha v hb q => ?_⟩
    · have m : b = N + 4 ∨ b = N + 3 ∨ b = N ∨ b = N + 1 := by simpa using hb
      rcases m with m | m | m | m <;> simp [m]
    · obtain ⟨T, u, u', ev, hT, ⟨c, tc, hc1, rfl⟩, ⟨d, td, hd1, rfl⟩, htup⟩ := q
      exact ⟨T, .str (sgn c), .str (sgn d), .str ⟨#[c]⟩ tc, .str ⟨#[d]⟩ td, ev, hT, ⟨tc, rfl⟩, ⟨td, rfl⟩, ⟨c, d, hc1, hd1, rfl, rfl⟩, htup⟩
def iZipS (ta : TA) : TI := fun σ H R => ta σ H fun vs H1 => ∃ y z : Str, vs = [.str y, .str z] ∧ R (ItP (min y.cps.size z.cps.size) (fun _ => True) (zipY y z)) H1
theorem pi_zipS {X : Cx} {e e2 : Expr} {ta : TA} {p pos tpos : Pos} {elts : List Expr} {kk : Nat} (hg : Gl X "zip") (hm : X.mg "zip" = none) (ha : PA X [e, e2] ta)
    (hs : starEach [e, e2] X.env = (false, eval e X.env) :: starEach [e2] X.env := by rfl) (hpl : (backTo pos (starEach [e2] X.env)).any (·.1) = false := by rfl) :
    PI X (.Tuple elts kk tpos) (.Call (.Name "zip" p) [e, e2] [] pos) (iZipS ta) := by
  refine ⟨fun pins s σ H R Iv h => ?_⟩
  refine Call_ (ld_blt Iv hg hm PyProof.Rows.boot_zip (PyProof.Rows.callWith_type1 (thn (ha.run pos pins s σ H _ Iv h) fun us s1 ⟨vs, H1, I1, r1, q1⟩ => ?_) hs hpl))
  obtain ⟨y, z, ex, q⟩ := q1
  subst ex
  obtain ⟨u1, u2, rfl, ru1, ru2⟩ := vals2 r1
  obtain ⟨t1, rfl⟩ := ru1
  obtain ⟨t2, rfl⟩ := ru2
  refine zip_begins2 (begins_text y t1) (begins_text z t2) True.intro True.intro fun h' hz hTI hTO h1 h2 _ hk => wpAny_pyIter_zip hz ?_
  have I2 : Inv X pins σ H1 { s1 with heap := h' } := I1.kept (t' := s1.toks) hk
  refine ⟨s1.heap.objs.size + 4, [s1.heap.objs.size + 4, s1.heap.objs.size + 2, s1.heap.objs.size + 3, s1.heap.objs.size, s1.heap.objs.size + 1], _, _, H1, rfl, I2, turn_zipS y z t1 t2 s1.heap.objs.size,
    ⟨hz, hTI, ⟨_, _, hTO⟩, ⟨_, h1, rfl, rfl⟩, ⟨_, h2, rfl, rfl⟩⟩, fun b hb => ?_, q⟩
  have m : b = s1.heap.objs.size + 4 ∨ b = s1.heap.objs.size + 2 ∨ b = s1.heap.objs.size + 3 ∨ b = s1.heap.objs.size ∨ b = s1.heap.objs.size + 1 := by simpa using hb
  have hle : s1.heap.objs.size ≤ b := by
    rcases m with m | m | m | m | m <;> rw [m] <;> first | exact Nat.le_refl _ | exact Nat.le_add_right _ _
  exact I1.fpOk hle (I1.hok.fresh hle)

/-! ### a text's slice with a step -/
def stepS (z : Str) (lo hi : Option Int) (k : Int) : Str := ⟨((Builtin.Str.strSliceIndices lo hi k z.length).filterMap (z.cps[·]?)).toArray⟩
def tStepS (te : TE) (tl th ts : TO) : TE := fun σ H Q => te σ H fun x H1 => tl σ H1 fun l H2 => th σ H2 fun u H3 => ts σ H3 fun st H4 =>
  ∃ (z : Str) (k : Int), x = .str z ∧ st = some k ∧ k ≠ 0 ∧ k ≠ 1 ∧ (stepS z l u k).length ≤ sizeLine ∧ Q (.str (stepS z l u k)) H4
theorem pe_stepS {X : Cx} {e st : Expr} {lo hi : Option Expr} {te : TE} {tl th ts : TO} {p2 pos : Pos} (he : PE X e te) (hl : PO X lo tl) (hu : PO X hi th) (hst : PO X (some st) ts) :
    PE X (.Subscript e (.Slice lo hi (some st) p2) pos) (tStepS te tl th ts) := by
  refine ⟨fun pins s σ H Q Iv h => ?_⟩
  refine Subscript_ (thn (he.run pins s σ H _ Iv h) fun v s1 ⟨x, H1, I1, r1, q1⟩ => ?_)
  refine wpAny_Slice (thn (hl.run pins s1 σ H1 _ I1 q1) fun vl s2 ⟨l, H2, I2, pl, q2⟩ => thn (hu.run pins s2 σ H2 _ I2 q2) fun vu s3 ⟨u, H3, I3, pu, q3⟩ =>
    thn (hst.run pins s3 σ H3 _ I3 q3) fun vs s4 ⟨o, H4, I4, ps, z, k, ex, eo, k0, k1, hsz, q⟩ => ?_)
  subst ex eo
  obtain ⟨t, rfl⟩ := r1
  obtain ⟨l', rfl, rfl⟩ := IsPart.raw pl
  obtain ⟨u', rfl, rfl⟩ := IsPart.raw pu
  cases ps with
  | int _ tk =>
    have I5 : Inv X pins σ H4 { s4 with heap := s4.heap.push { cls := .type "slice", data := .fields #[partValue l', partValue u', .int k tk] } } := I4.kept (t' := s4.toks) fun b ob q => Heap.get?_push_of_some _ q
    show wpAny (model X.prog X.w) X.A (subscriptTail e (.Slice lo hi (some st) p2) (.str z t) (.ref s4.heap.objs.size)) (EP X pins σ Q) X.xe { s4 with heap := s4.heap.push { cls := .type "slice", data := .fields #[partValue l', partValue u', .int k tk] } }
    refine tail_any (ops := [.str z t, .ref s4.heap.objs.size]) (typeIs_str _ _ _) F.slot_str_getitem.lookup ?_ (by with_unfolding_all rfl)
    have hk0 : (((some (k, tk) : Option (Int × Tok)).map (·.1)).getD 1 == 0) = false := by
      show (k == 0) = false
      simpa using k0
    refine wpAny_getItem_str_slice (l := l') (u := u') (st := some (k, tk)) ⟨_, Heap.get?_push_size _ rfl, rfl, rfl⟩ hk0 ?_
    have hk1 : (k == 1) = false := by simpa using k1
    show Made.post (if ((k : Int) == 1 && (Builtin.Str.strSliceIndices (l'.map (·.1)) (u'.map (·.1)) k z.length).length == z.length) = true then Made.val (.str z t)
      else Made.str ⟨((Builtin.Str.strSliceIndices (l'.map (·.1)) (u'.map (·.1)) k z.length).filterMap (z.cps[·]?)).toArray⟩) (EP X pins σ Q) _
    rw [hk1, Bool.false_and, if_neg Bool.false_ne_true]
    exact ⟨hsz, .str _, H4, I5.tok _, ⟨_, rfl⟩, q⟩
end G58

set_option Elab.async false
set_option linter.all false
set_option maxRecDepth 100000
set_option maxHeartbeats 4000000
/-! A try with several clauses, with or without a name. -/
namespace G58
open PySem PySem.Spec PyProof.Rows L2
/-- a clause: its class, the slot of its name if it has one, what its suite reads as -/
structure Clause where
  cls : Value
  slot : Option Nat
  ts : Addr → Value → Option Addr → TS
/-- behind a suite its name is gone -/
def unset (i : Nat) (D : Ends) : Ends :=
  ⟨fun s' H' => D.nx (s'.set i none) H', D.rt, fun s' H' => D.bk (s'.set i none) H', fun s' H' => D.ct (s'.set i none) H'⟩
def Clause.does (cl : Clause) (D : Ends) (a : Addr) (k : Value) (d : Option Addr) (st : L2.St) (H : Hp) : Prop :=
  match cl.slot with
  | none => cl.ts a k d D st H
  | some i => i < st.length → cl.ts a k d (unset i D) (st.set i (some (.ref a))) H
/-- what the clauses wish, from the first on -/
def wMix (K : PySem.W.Frag) (Wout : WX) (D : Ends) : List Clause → WX
  | [] => Wout
  | cl :: r => fun k d st H => ∃ b, PySem.W.exmOne K k cl.cls = some b ∧ (b = true → ∀ a, H a = none → cl.does D a k d st H) ∧ (b = false → wMix K Wout D r k d st H)
/-- the suite of a clause -/
def SuiteOk (X : Cx) (body : List Stmt) (ts : Addr → Value → Option Addr → TS) : Prop :=
  ∀ (a : Addr) (oe : Obj) (k : Value) (d : Option Addr) (pn : List (Addr × Obj)), Zc k d oe → (∃ vs, oe.data = .fields vs) → PSs (X.suite a ((a, oe) :: pn)) body (ts a k d)
inductive MixOk (X : Cx) : List ExceptHandler → List Clause → Prop
  | nil : MixOk X [] []
  | bare {x : Str} {c : Value} {ts : Addr → Value → Option Addr → TS} {b0 : Stmt} {suite : List Stmt} {np hp : Pos} {hds : List ExceptHandler} {l : List Clause}
      (hc : Names X x c) (hsu : SuiteOk X (b0 :: suite) ts) (r : MixOk X hds l) : MixOk X (.ExceptHandler (some (.Name x np)) none (b0 :: suite) hp :: hds) (⟨c, none, ts⟩ :: l)
  | named {x n : Str} {i : Nat} {c : Value} {ts : Addr → Value → Option Addr → TS} {b0 : Stmt} {suite : List Stmt} {np hp : Pos} {hds : List ExceptHandler} {l : List Clause}
      (hN : X.N.Nodup) (hi : X.N[i]? = some n) (hln : X.env.kindOf n = some .local)
      (hc : Names X x c) (hsu : SuiteOk X (b0 :: suite) ts) (r : MixOk X hds l) : MixOk X (.ExceptHandler (some (.Name x np)) (some n) (b0 :: suite) hp :: hds) (⟨c, some i, ts⟩ :: l)
section
variable {X : Cx} {body : List Stmt} {h0 : ExceptHandler} {hds : List ExceptHandler} {l : List Clause} {pos : Pos} {tb : WX → TS} {Wout : WX}
theorem name_in_suite {a : Addr} {oe : Obj} {pins : List (Addr × Obj)} {st : L2.St} {H : Hp} {s : Shared} {x : Str} {c : Value} {np : Pos} (S : Inv (X.suite a ((a, oe) :: (X.pn ++ pins))) [] st H s) (hc : Names X x c)
    {Q : Value → Shared → Prop} {E : Value → Shared → Prop} (q : Q c s) : wpAny (model X.prog X.w) (X.A.mark (some (.ref a))) (eval (.Name x np) X.env) Q E s := by
  obtain ⟨hg, hdb, hm | ⟨hm, hv, hnn⟩⟩ := hc
  · exact ld_glob (X := X.suite a ((a, oe) :: (X.pn ++ pins))) S hg hm q hdb
  · exact ld_blt (X := X.suite a ((a, oe) :: (X.pn ++ pins))) S hg hm hv q hnn hdb
theorem ps_try_mix (hs : X.stack = X.env :: X.outer) (hf : X.env.frame = some X.env.locals) (tk : Takes X Wout)
    (hb : ∀ (W : WX) (pn : List (Addr × Obj)) (xe : Value → Shared → Prop), Takes (X.tr pn xe) W → PassesOwn (model X.prog X.w) X.A X.env xe → PSs (X.tr pn xe) body (tb W))
    (hh : MixOk X (h0 :: hds) l) : PS X (.Try body (h0 :: hds) [] [] pos) (fun D st H => tb (wMix X.K Wout D l) D st H) := by
  refine ⟨fun pins s st H D Iv h => ?_⟩
  have ok := Iv.ok
  have hfr : X.A.frames = some (X.env :: X.outer) := ok.frames.trans (congrArg some hs)
  refine wpAny_Try_except ?_
  let catcher : Value → Shared → Prop := fun e s1 => wpAny (model X.prog X.w) X.A (noteFrame e X.env) (fun _ s2 => wpAny (model X.prog X.w) X.A (setFlight e none)
    (fun _ s3 => wpAny (model X.prog X.w) X.A (handleBy e X.env (h0 :: hds)) (SP X pins D) X.xe s3) X.xe s2) X.xe s1
  have takes : Takes (X.tr (X.pn ++ pins) catcher) (wMix X.K Wout D l) := by
    intro u s' xx
    obtain ⟨a, B, sI, pins', st', H', k, d, rfl, J', nb, up, sky, na, os, ag, w⟩ := xx
    have J : Inv X pins st' H' sI := J'.ofTry ok
    have sky' : Sky B (X.env :: X.outer) a (Zc k d) X.env.locals s'.heap := by
      have z : Sky B X.stack a (Zc k d) X.env.locals s'.heap := sky
      rw [hs] at z
      exact z
    refine Sky.land Zc.steady hfr hf sky' fun h3 fl3 up3 => ?_
    have J3 : Inv X pins st' H' { s' with heap := h3 } := J.landed nb fl3.1 (up.trans up3) os ag
    obtain ⟨oe3, vs3, he3, hz3, hd3⟩ := fl3.there
    have apart : a ∉ frs (X.env :: X.outer) := fun hm => by
      obtain ⟨_, o', e', hnf⟩ := fl3.2.2.1.mem hm
      rw [he3] at e'
      cases e'
      exact hnf _ hd3
    have nL : a ≠ X.env.locals := fun z => apart (List.mem_filterMap.mpr ⟨X.env, List.mem_cons_self, by rw [hf, z]⟩)
    have nF : a ∉ X.fs := fun hm => by
      obtain ⟨e, he, q⟩ := List.mem_filterMap.mp hm
      exact apart (List.mem_filterMap.mpr ⟨e, List.mem_cons_of_mem _ he, q⟩)
    have S3 := J3.suite he3 hd3 na nL nF
    have ofType : PySem.W.Looks (model X.prog X.w) h3 (typeOf (.ref a)) k := fun A Q E s kk q => wpAny_typeOf_ref (kk _ _ he3) (by rw [hz3.1]; exact q)
    have go : ∀ {hds' : List ExceptHandler} {l' : List Clause}, MixOk X hds' l' → wMix X.K Wout D l' k d st' H' →
        wpAny (model X.prog X.w) X.A (handleBy (.ref a) X.env hds') (SP X pins D) X.xe { s' with heap := h3 } := by
      intro hds' l' hk
      induction hk with
      | nil =>
        intro w
        refine wpAny_handleBy_nil ?_
        obtain ⟨k1, k2, k3, oe, vs, T, oT, ts', he, hz, hd, hv1, hr⟩ := id fl3
        unfold PySem.passOn
        refine wpAny_bind (wpAny_field he hd hv1 ?_)
        rw [if_neg (show ¬ ((Value.ref T == Value.none) = true) from by simp)]
        have fin : wpAny (model X.prog X.w) X.A (setFlight (.ref a) X.env.frame) (fun _ s4 => wpAny (model X.prog X.w) X.A (throw (.ref a) : Sem Flow) (SP X pins D) X.xe s4) X.xe { s' with heap := h3 } := by
          rw [hf]
          refine HandSPX.setFlight_upZ fl3 fun h4 hh4 up4 => wpAny_throw (tk _ _ ?_)
          exact ⟨a, B, sI, pins, st', H', k, d, rfl, J, nb, (up.trans up3).trans up4, .inr (.inr (by rw [hs]; exact hh4)), na, os, ag, w⟩
        first
          | exact wpAny_bind (wpAny_pure (wpAny_bind fin))
          | exact wpAny_bind fin
      | bare hc hsu r ih =>
        intro w
        obtain ⟨b, hb1, hyes, hno⟩ := w
        refine wpAny_handleBy_cons (codeAny_handlers_test ?_) (by intro q; cases q)
        refine name_in_suite S3 hc ((PySem.W.exm_one (M := model X.prog X.w) J3.kIn ofType hb1).here ?_)
        cases b with
        | true =>
          refine codeAny_handlers_suite ?_
          refine HandSPX.lands_againZ fl3 fun h4 fl4 up4 => ?_
          have J4 : Inv X pins st' H' { s' with heap := h4 } := J.landed nb fl4.1 ((up.trans up3).trans up4) os ag
          obtain ⟨oe4, vs4, he4, hz4, hd4⟩ := fl4.there
          have S4 := J4.suite he4 hd4 na nL nF
          refine wpAny_mono ((hsu a oe4 k d (X.pn ++ pins) hz4 ⟨_, hd4⟩).run [] _ _ H' _ S4 (hyes rfl a na)) (fun f s6 hsp => ?_) (fun _ _ z => False.elim z)
          cases f with
          | ret u =>
            obtain ⟨v6, t6, H6, S6, r6, q6⟩ := hsp
            exact ⟨_, _, _, S6.unsuite ok, r6, q6⟩
          | _ =>
            obtain ⟨t6, H6, S6, q6⟩ := hsp
            exact ⟨_, _, S6.unsuite ok, q6⟩
        | false => exact ih (hno rfl)
      | named hN hi hln hc hsu r ih =>
        intro w
        obtain ⟨b, hb1, hyes, hno⟩ := w
        refine wpAny_handleBy_cons (codeAny_handlers_test ?_) (by intro q; cases q)
        refine name_in_suite S3 hc ((PySem.W.exm_one (M := model X.prog X.w) J3.kIn ofType hb1).here ?_)
        cases b with
        | true =>
          refine codeAny_handlers_suite_as ?_
          refine HandSPX.lands_againZ fl3 fun h4 fl4 up4 => ?_
          have J4 : Inv X pins st' H' { s' with heap := h4 } := J.landed nb fl4.1 ((up.trans up3).trans up4) os ag
          obtain ⟨oe4, vs4, he4, hz4, hd4⟩ := fl4.there
          have S4 := J4.suite he4 hd4 na nL nF
          refine store_ok (X := X.suite a ((a, oe4) :: (X.pn ++ pins))) (v := .ref a) S4 hN hi (.inl hln) rfl (fun s5 S5 => ?_) (.inr hln)
          refine wpAny_mono ((hsu a oe4 k d (X.pn ++ pins) hz4 ⟨_, hd4⟩).run [] s5 _ H' _ S5 (hyes rfl a na (by rw [J.len]; exact (List.getElem?_eq_some_iff.mp hi).1))) (fun f s6 hsp => ?_) (fun _ _ z => False.elim z)
          cases f with
          | ret u =>
            obtain ⟨v6, t6, H6, S6, r6, q6⟩ := hsp
            exact gone_ok (S6.unsuite ok) hN hi hln fun s7 J7 => ⟨_, _, _, J7, r6, q6⟩
          | _ =>
            obtain ⟨t6, H6, S6, q6⟩ := hsp
            exact gone_ok (S6.unsuite ok) hN hi hln fun s7 J7 => ⟨_, _, J7, q6⟩
        | false => exact ih (hno rfl)
    exact go hh w
  refine wpAny_mono ((hb (wMix X.K Wout D l) (X.pn ++ pins) catcher takes PassesOwn.looking).run [] s st H D (Iv.toTry _) h) (fun f s1 hsp => ?_) (fun e s1 he => he)
  cases f with
  | next =>
    obtain ⟨t1, H1, J1, q⟩ := hsp
    exact wpAny_execs_nil ⟨t1, H1, J1.ofTry ok, q⟩
  | ret u =>
    obtain ⟨v, t1, H1, J1, r, q⟩ := hsp
    exact ⟨v, t1, H1, J1.ofTry ok, r, q⟩
  | _ =>
    obtain ⟨t1, H1, J1, q⟩ := hsp
    exact ⟨t1, H1, J1.ofTry ok, q⟩
end
end G58

set_option Elab.async false
set_option linter.all false
set_option maxRecDepth 100000
set_option maxHeartbeats 4000000
/-! k19: what the package does with a row that is no file. -/
namespace G58
open PySem PySem.Spec PyProof.Rows L2
def topS (i : Nat) : Stmt := PySem.Challenge.pw_nestfile_k19_elements_that_are_no_bytes.main.body.getD i (.Pass ⟨0, 0, 0, 0⟩)
abbrev sInitB : Stmt := inClass (topS 7) 0
abbrev sInitR : Stmt := inClass (topS 8) 0
abbrev sInt : Stmt := topS 13
abbrev sBtw : Stmt := topS 14
abbrev sChk : Stmt := topS 32
abbrev sFrm : Stmt := topS 33
abbrev sRead : Stmt := topS 47
structure Ad where
  (cN cB cR fiB fiR fInt fBtw fChk fFrm fRead aH : Addr)
/-- an own exception class -/
structure ExC (K : PySem.W.Frag) (C f : Addr) : Prop where
  ox : OexC K C
  xf : XfC K C
  ini : PySem.W.findIn K (.ref C) "__init__" = some (some (.ref f))
  ti : PySem.W.typeIn K (.ref f) = some (.type "function")
abbrev hdr : List V := [.int 98, .int 112, .int 108, .int 105, .int 115, .int 116, .int 48, .int 48]
structure Txt (K : PySem.W.Frag) (mg : Str → Option Value) (a : Ad) : Prop where
  xB : ExC K a.cB a.fiB
  noB : PySem.W.findIn K (.ref a.cB) "place" = some none
  xR : ExC K a.cR a.fiR
  noR : PySem.W.findIn K (.ref a.cR) "place" = some none
  noW : PySem.W.findIn K (.ref a.cR) "word" = some none
  gN : mg "NestError" = some (.ref a.cN)
  gB : mg "NoBytes" = some (.ref a.cB)
  gR : mg "Torn" = some (.ref a.cR)
  gInt : mg "is_integer" = some (.ref a.fInt)
  gBtw : mg "is_between" = some (.ref a.fBtw)
  gChk : mg "check_bytes" = some (.ref a.fChk)
  gFrm : mg "check_frame" = some (.ref a.fFrm)
  gRead : mg "read" = some (.ref a.fRead)
  gLL : ∃ t, mg "LEAST_LENGTH" = some (.int 42 t)
  gHd : mg "HEADER" = some (.ref a.aH)
  hd : ∀ H, SqT K H a.aH hdr
  bIsi : mg "isinstance" = none
  bInt : mg "int" = none
  bBool : mg "bool" = none
  bEnum : mg "enumerate" = none
  bLen : mg "len" = none
def byteV : V → Bool
  | .int i => decide (0 ≤ i) && decide (i ≤ 255)
  | _ => false
def intV : V → Bool
  | .int _ => true
  | _ => false
/-- a thing whose type is known -/
inductive Kd (K : PySem.W.Frag) (H : Hp) : V → Prop
  | int (i : Int) : Kd K H (.int i)
  | non : Kd K H .non
  | bl (b : Bool) : Kd K H (.bl b)
  | str (z : Str) : Kd K H (.str z)
  | lst {a : Addr} {xs : List V} (h : H a = some (.lst xs)) : Kd K H (.ref a)
theorem Kd.mono {K : PySem.W.Frag} {H H' : Hp} (s : Same H H') {x : V} (k : Kd K H x) : Kd K H' x := by
  cases k with
  | int i => exact .int i
  | non => exact .non
  | bl b => exact .bl b
  | str z => exact .str z
  | lst h => exact .lst (s _ _ h)
theorem Kd.isi {K : PySem.W.Frag} {H : Hp} {x : V} (k : Kd K H x) : ∃ (t : Value) (b1 b2 : Bool), TyX K H x t ∧ PySem.W.kitOne K t (.type "int") = some b1 ∧ PySem.W.kitOne K t (.type "bool") = some b2 ∧ (b1 && !b2) = intV x := by
  cases k with
  | int i => exact ⟨_, true, false, .base (.int i), kit_ty (by decide +kernel), kit_ty (by decide +kernel), rfl⟩
  | non => exact ⟨_, false, false, .base .non, kit_ty (by decide +kernel), kit_ty (by decide +kernel), rfl⟩
  | bl b => exact ⟨_, true, true, .base (.bl b), kit_ty (by decide +kernel), kit_ty (by decide +kernel), rfl⟩
  | str z => exact ⟨_, false, false, .base (.str z), kit_ty (by decide +kernel), kit_ty (by decide +kernel), rfl⟩
  | lst h => exact ⟨_, false, false, .base (.lst h), kit_ty (by decide +kernel), kit_ty (by decide +kernel), rfl⟩
/-! ### errors made -/
abbrev plc (v : V) : List (Str × V) := [(("place" : Str), v)]
abbrev wrd (u v : V) : List (Str × V) := [(("place" : Str), v), (("word" : Str), u)]
def spEI (C : Addr) : Sp := fun vs H Q _ => ∃ (a : Addr) (v : V), vs = [.ref a, v] ∧ H a = some (exo a C none) ∧ ∀ dx, H dx = none → dx ≠ a → Q .non (upd (upd H dx (exd dx (plc v))) a (exo a C (some dx)))
def spEI2 (C : Addr) : Sp := fun vs H Q _ => ∃ (a : Addr) (u v : V), vs = [.ref a, u, v] ∧ H a = some (exo a C none) ∧ ∀ dx, H dx = none → dx ≠ a → Q .non (upd (upd (upd H dx (exd dx [(("word" : Str), u)])) a (exo a C (some dx))) dx (exd dx (wrd u v)))
theorem mk_read {C : Addr} {v : V} {H1 : Hp} {Qx : XK} (h : ∀ d, H1 d = none → Qx (.ref C) (some d) (upd H1 d (.xd (plc v)))) (x : Addr) (hx : H1 x = none) :
    spEI C (.ref x :: ([v] ++ [])) (upd H1 x (exo x C none)) (fun u H2 => u = .non ∧ ∃ (d : Addr) (fs : List (Str × V)), H2 x = some (exo x C (some d)) ∧ H2 d = some (exd d fs) ∧ H1 d = none ∧ Qx (.ref C) (some d) (upd (del H2 x) d (.xd fs))) (fun _ _ _ => False) := by
  refine ⟨x, v, rfl, upd_same, fun dx h1 h2 => ?_⟩
  rw [upd_ne h2] at h1
  refine ⟨rfl, dx, plc v, upd_same, by rw [upd_ne h2, upd_same], h1, ?_⟩
  have e : upd (del (upd (upd (upd H1 x (exo x C none)) dx (exd dx (plc v))) x (exo x C (some dx))) x) dx (.xd (plc v)) = upd H1 dx (.xd (plc v)) := by
    funext b
    by_cases hb : b = dx
    · rw [hb, upd_same, upd_same]
    · rw [upd_ne hb, upd_ne hb]
      by_cases hc : b = x
      · rw [hc, del_same, hx]
      · rw [del_ne hc, upd_ne hc, upd_ne hb, upd_ne hc]
  rw [e]
  exact h dx h1
theorem mk_read2 {C : Addr} {u v : V} {H1 : Hp} {Qx : XK} (h : ∀ d, H1 d = none → Qx (.ref C) (some d) (upd H1 d (.xd (wrd u v)))) (x : Addr) (hx : H1 x = none) :
    spEI2 C (.ref x :: ([u, v] ++ [])) (upd H1 x (exo x C none)) (fun y H2 => y = .non ∧ ∃ (d : Addr) (fs : List (Str × V)), H2 x = some (exo x C (some d)) ∧ H2 d = some (exd d fs) ∧ H1 d = none ∧ Qx (.ref C) (some d) (upd (del H2 x) d (.xd fs))) (fun _ _ _ => False) := by
  refine ⟨x, u, v, rfl, upd_same, fun dx h1 h2 => ?_⟩
  rw [upd_ne h2] at h1
  refine ⟨rfl, dx, wrd u v, by rw [upd_ne (Ne.symm h2), upd_same], upd_same, h1, ?_⟩
  have e : upd (del (upd (upd (upd (upd H1 x (exo x C none)) dx (exd dx [(("word" : Str), u)])) x (exo x C (some dx))) dx (exd dx (wrd u v))) x) dx (.xd (wrd u v)) = upd H1 dx (.xd (wrd u v)) := by
    funext b
    by_cases hb : b = dx
    · rw [hb, upd_same, upd_same]
    · rw [upd_ne hb, upd_ne hb]
      by_cases hc : b = x
      · rw [hc, del_same, hx]
      · rw [del_ne hc, upd_ne hb, upd_ne hc, upd_ne hb, upd_ne hc]
  rw [e]
  exact h dx h1
theorem same_new {H H1 : Hp} (s : Same H H1) {d : Addr} {o : HO} (hd : H1 d = none) : Same H (upd H1 d o) := fun b u e => by
  rw [upd_ne (ne_of_none (s b u e) hd)]
  exact s b u e
def Out (C : Addr) (H : Hp) (E : XK) (i : Int) : Prop := ∀ d H', Same H H' → H' d = some (.xd (plc (.int i))) → E (.ref C) (some d) H'
def Out2 (C : Addr) (H : Hp) (E : XK) (z : Str) (i : Int) : Prop := ∀ d H', Same H H' → H' d = some (.xd (wrd (.str z) (.int i))) → E (.ref C) (some d) H'
/-! ### promises -/
def spInt (K : PySem.W.Frag) : Sp := fun vs H Q _ => ∃ x, vs = [x] ∧ Kd K H x ∧ Q (.bl (intV x)) H
def btwV (x : V) (lo hi : Int) : Bool := match x with
  | .int i => decide (lo ≤ i) && decide (i ≤ hi)
  | _ => false
def spBtw (K : PySem.W.Frag) : Sp := fun vs H Q _ => ∃ (x : V) (lo hi : Int), vs = [x, .int lo, .int hi] ∧ Kd K H x ∧ Q (.bl (btwV x lo hi)) H
def spChk (K : PySem.W.Frag) (C : Addr) : Sp := fun vs H Q E => ∃ (p : Addr) (xs : List V), vs = [.ref p] ∧ (SqL K H p xs ∨ SqT K H p xs) ∧ (∀ x ∈ xs, Kd K H x) ∧
  (∀ i, xs.findIdx? (fun x => !byteV x) = some i → Out C H E (i : Nat)) ∧ (xs.findIdx? (fun x => !byteV x) = none → ∀ H', Same H H' → Q .non H')
def spFrm (K : PySem.W.Frag) (C : Addr) : Sp := fun vs H _ E => ∃ (p : Addr) (xs : List V), vs = [.ref p] ∧ SqL K H p xs ∧ (xs.length < 42 → Out2 C H E "short" xs.length) ∧ (42 ≤ xs.length → (∃ v : Int, xs[0]? = some (.int v) ∧ v ≠ 98) ∧ Out2 C H E "header" 0)
def spRead (K : PySem.W.Frag) (a : Ad) : Sp := fun vs H _ E => ∃ (p : Addr) (xs : List V), vs = [.ref p] ∧ (SqL K H p xs ∨ SqT K H p xs) ∧ (∀ x ∈ xs, Kd K H x) ∧
  (∀ i, xs.findIdx? (fun x => !byteV x) = some i → Out a.cB H E (i : Nat)) ∧
  (xs.findIdx? (fun x => !byteV x) = none → SqL K H p xs ∧ (xs.length < 42 → Out2 a.cR H E "short" xs.length) ∧ (42 ≤ xs.length → (∃ v : Int, xs[0]? = some (.int v) ∧ v ≠ 98) ∧ Out2 a.cR H E "header" 0))
theorem byte_btw (x : V) : btwV x 0 255 = byteV x := by cases x <;> rfl
theorem find_first {α : Type} {p : α → Bool} : ∀ {l : List α} {i : Nat} {x : α}, l[i]? = some x → (∀ j y, j < i → l[j]? = some y → p y = false) → p x = true → l.findIdx? p = some i
  | [], i, x, h, _, _ => by simp at h
  | a :: l, 0, x, h, _, hp => by
    have e : a = x := Option.some.inj h
    rw [List.findIdx?_cons, e, hp]
    rfl
  | a :: l, i + 1, x, h, hj, hp => by
    have ih := find_first (l := l) (i := i) h (fun j y hji hy => hj (j + 1) y (by omega) hy) hp
    rw [List.findIdx?_cons, hj 0 a (by omega) rfl, ih]
    rfl
theorem find_all {α : Type} {p : α → Bool} {l : List α} (h : ∀ j y, j < l.length → l[j]? = some y → p y = false) : l.findIdx? p = none := by
  rw [List.findIdx?_eq_none_iff]
  intro x hx
  obtain ⟨j, hj, e⟩ := List.mem_iff_getElem.mp hx
  exact h j x hj (by rw [List.getElem?_eq_getElem hj, e])
def YEn (xs : List V) : Nat → Hp → V → Hp → Prop := fun i H v H' => ∃ T y, v = .ref T ∧ H T = none ∧ H' = upd H T (.tup [.int (i : Nat), y]) ∧ xs[i]? = some y
theorem enL {K : PySem.W.Frag} {p : Addr} {xs : List V} : Walk (Ite K p) xs.length (fun H => SqL K H p xs) (YEn xs) :=
  walk_enum.mono (fun _ h => h) fun i H v H' _ _ y => by
    obtain ⟨T, x, z, h1, h2, h3, h4, h5⟩ := y
    cases Option.some.inj h4
    exact ⟨T, z, h1, h2, h3, h5⟩
theorem enT {K : PySem.W.Frag} {p : Addr} {xs : List V} : Walk (ItP xs.length (fun H => SqT K H p xs) (fun i x y => x = .int (i : Nat) ∧ xs[i]? = some y)) xs.length (fun H => SqT K H p xs) (YEn xs) :=
  walkP.mono (fun _ h => h) fun i H v H' _ _ y => by
    obtain ⟨T, x, z, h1, h2, h3, rfl, h5⟩ := y
    exact ⟨T, z, h1, h2, h3, h5⟩
theorem Same.tup {K : PySem.W.Frag} {H H' : Hp} {p : Addr} {xs : List V} (e : Same H H') (h : SqT K H p xs) : SqT K H' p xs := by
  rcases h with (h | ⟨o, h⟩) | h
  · exact .inl (.inl (e _ _ h))
  · exact .inl (.inr ⟨o, e _ _ h⟩)
  · exact .inr h
theorem ifNeT {c A B : Prop} [Decidable c] (hc : ¬ c) (h : A) : if (!decide c) = true then A else B := by
  rw [decide_eq_false hc]
  exact iteT h
section
variable {P : Program} {w : World} {K : PySem.W.Frag} {mg : Str → Option Value} {base : Heap} {a : Ad}
theorem scEB : FnScope ["self", "place"] ["self", "place"] (defScope sInitB) := ⟨rfl, rfl, rfl, by decide +kernel, rfl, by decide +kernel, by decide +kernel⟩
theorem scER : FnScope ["self", "word", "place"] ["self", "word", "place"] (defScope sInitR) := ⟨rfl, rfl, rfl, by decide +kernel, rfl, by decide +kernel, by decide +kernel⟩
theorem ok_initB {f : Addr} {fd : FuncData} (F : Fun K "__init__" "NoBytes.__init__" sInitB f fd) (T : Txt K mg a) : FnOk P w K mg base CX0 1 f fd ["self", "place"] (spEI a.cB) := by
  refine F.ok scEB (fun vs H Q E h => ?_) (fun cdv A outer s H vs Q E hr h => ?_)
  · obtain ⟨x, v, rfl, _⟩ := h
    rfl
  · obtain ⟨x, v, rfl, hx, k⟩ := h
    refine ⟨_, pss_one (ps_ost (pv 0) (pv 1)), ?_⟩
    exact ⟨_, rfl, _, rfl, x, a.cB, rfl, T.xB.ox, T.noB, .inl ⟨hx, fun dx h1 h2 => k dx h1 h2⟩⟩
theorem ok_initR {f : Addr} {fd : FuncData} (F : Fun K "__init__" "Torn.__init__" sInitR f fd) (T : Txt K mg a) : FnOk P w K mg base CX0 1 f fd ["self", "word", "place"] (spEI2 a.cR) := by
  refine F.ok scER (fun vs H Q E h => ?_) (fun cdv A outer s H vs Q E hr h => ?_)
  · obtain ⟨x, u, v, rfl, _⟩ := h
    rfl
  · obtain ⟨x, u, v, rfl, hx, k⟩ := h
    refine ⟨_, pss_cons (ps_ost (pv 0) (pv 1)) (pss_one (ps_ost (pv 0) (pv 2))), ?_⟩
    refine ⟨_, rfl, _, rfl, x, a.cR, rfl, T.xR.ox, T.noW, .inl ⟨hx, fun dx h1 h2 => ?_⟩⟩
    exact ⟨_, rfl, _, rfl, x, a.cR, rfl, T.xR.ox, T.noR, .inr ⟨dx, _, upd_same, by rw [upd_ne h2]; exact upd_same, by show 1 ≤ 900; decide, k dx h1 h2⟩⟩
theorem scInt : FnScope ["thing"] ["thing"] (defScope sInt) := ⟨rfl, rfl, rfl, by decide +kernel, rfl, by decide +kernel, by decide +kernel⟩
theorem ok_int {f : Addr} {fd : FuncData} (F : Fun K "is_integer" "is_integer" sInt f fd) (T : Txt K mg a) : FnOk P w K mg base CX0 1 f fd ["thing"] (spInt K) := by
  refine F.ok scInt (fun vs H Q E h => ?_) (fun cdv A outer s H vs Q E hr h => ?_)
  · obtain ⟨x, rfl, _⟩ := h
    rfl
  · obtain ⟨x, rfl, kd, k⟩ := h
    refine ⟨_, pss_one (ps_ret (pe_and (pe_callB call_isi (by rfl) T.bIsi (by decide +kernel) (pa_cons (pv 0) (pa_cons (pe_bltn (v := .ty "int") rfl T.bInt (by decide +kernel) rfl) pa_nil)))
      (pe_one (pe_not (pe_callB call_isi (by rfl) T.bIsi (by decide +kernel) (pa_cons (pv 0) (pa_cons (pe_bltn (v := .ty "bool") rfl T.bBool (by decide +kernel) rfl) pa_nil))))))), ?_⟩
    obtain ⟨t, b1, b2, ty, k1, k2, e⟩ := kd.isi
    refine ⟨_, rfl, x, .ty "int", t, _, b1, rfl, .ty _, ty, k1, _, rfl, ?_⟩
    rw [← e] at k
    cases b1 with
    | false => exact iteF k
    | true => exact iteT ⟨_, rfl, x, .ty "bool", t, _, b2, rfl, .ty _, ty, k2, _, rfl, k⟩
theorem scBtw : FnScope ["thing", "least", "most"] ["thing", "least", "most"] (defScope sBtw) := ⟨rfl, rfl, rfl, by decide +kernel, rfl, by decide +kernel, by decide +kernel⟩
theorem ok_btw {f : Addr} {fd fdI : FuncData} (F : Fun K "is_between" "is_between" sBtw f fd) (T : Txt K mg a) (FI : Fun K "is_integer" "is_integer" sInt a.fInt fdI) (bI : Binds K fdI ["thing"] []) : FnOk P w K mg base CX0 2 f fd ["thing", "least", "most"] (spBtw K) := by
  have GI : FnOk P w K mg base CX0 1 a.fInt fdI ["thing"] (spInt K) := ok_int FI T
  refine F.ok scBtw (fun vs H Q E h => ?_) (fun cdv A outer s H vs Q E hr h => ?_)
  · obtain ⟨x, lo, hi, rfl, _⟩ := h
    rfl
  · obtain ⟨x, lo, hi, rfl, kd, k⟩ := h
    refine ⟨_, pss_one (ps_ret (pe_and (pe_call GI hr rfl T.gInt FI.kp bI .nil pass0 (pa_cons (pv 0) pa_nil)) (pe_one (pe_chain op_le op_le (pv 1) (pv 0) (pv 2))))), ?_⟩
    refine ⟨_, rfl, x, rfl, kd, _, rfl, ?_⟩
    cases x with
    | int i =>
      refine iteT ⟨_, rfl, _, rfl, _, _, rfl, rfl, _, rfl, ?_⟩
      have e : btwV (.int i) lo hi = (decide (lo ≤ i) && decide (i ≤ hi)) := rfl
      rw [e] at k
      cases c : decide (lo ≤ i) with
      | true =>
        rw [c, Bool.true_and] at k
        exact iteT ⟨_, rfl, _, _, rfl, rfl, k⟩
      | false =>
        rw [c, Bool.false_and] at k
        exact iteF k
    | _ => exact iteF k
theorem scChk : FnScope ["data", "place", "octet"] ["data"] (defScope sChk) := ⟨rfl, rfl, rfl, by decide +kernel, rfl, by decide +kernel, by decide +kernel⟩
theorem ok_chk {f : Addr} {fd fdI fdB fdE : FuncData} (F : Fun K "check_bytes" "check_bytes" sChk f fd) (T : Txt K mg a) (FI : Fun K "is_integer" "is_integer" sInt a.fInt fdI) (bI : Binds K fdI ["thing"] [])
    (FB : Fun K "is_between" "is_between" sBtw a.fBtw fdB) (bB : Binds K fdB ["thing", "least", "most"] []) (FE : Fun K "__init__" "NoBytes.__init__" sInitB a.fiB fdE) (bE : Binds K fdE ["self", "place"] []) :
    FnOk P w K mg base (L2.CX P w) 3 f fd ["data"] (spChk K a.cB) := by
  have GB : FnOk P w K mg base CX0 2 a.fBtw fdB ["thing", "least", "most"] (spBtw K) := ok_btw FB T FI bI
  have GE : FnOk P w K mg base CX0 1 a.fiB fdE ["self", "place"] (spEI a.cB) := ok_initB FE T
  refine F.okX scChk (fun vs H Q E h => ?_) (fun cdv A outer s H vs Q E hr h => ?_)
  · obtain ⟨p, xs, rfl, _⟩ := h
    rfl
  · obtain ⟨p, xs, rfl, hS, hK, hbad, hgood⟩ := h
    refine ⟨_, pss_one (ps_for (passes_of rfl) rfl (pi_or (pi_enum (by rfl) T.bEnum (pa_cons (pv 0) pa_nil)) (pi_enumT (by rfl) T.bEnum (pa_cons (pv 0) pa_nil)))
      (pg_tup rfl (pgs_cons (pg_name (i := 1) scChk.nd rfl (.inl rfl)) (pgs_cons (pg_name (i := 2) scChk.nd rfl (.inl rfl)) pgs_nil)))
      (pss_one (ps_if (pt_not (pt_val (pe_call GB hr rfl T.gBtw FB.kp bB .nil pass0 (pa_cons (pv 2) (pa_cons pe_int (pa_cons pe_int pa_nil))))))
        (pss_one (ps_raise rfl (takes_of rfl rfl rfl rfl) (pmk_oex T.xB.ox T.xB.ini T.xB.ti GE hr bE .nil pass0 rfl T.gB (pa_cons (pv 1) pa_nil)))) pss_nil))), ?_⟩
    let Pv : Nat → L2.St → Hp → Prop := fun i st H1 => ∃ u1 u2, st = [some (.ref p), u1, u2] ∧ Same H H1 ∧ ∀ j y, j < i → xs[j]? = some y → byteV y = true
    have start : Pv 0 [some (.ref p), none, none] H := ⟨none, none, rfl, Same.refl H, fun j y hj => absurd hj (Nat.not_lt_zero j)⟩
    have last : ∀ st H1, Pv xs.length st H1 → Q .non H1 := fun st H1 ⟨_, _, _, s1, hall⟩ => hgood (find_all fun j y hj hy => by rw [hall j y hj hy]; rfl) H1 s1
    rcases hS with hS | hS
    · refine .inl ⟨_, rfl, p, xs, rfl, hS, for_it enL Pv start (fun i st H1 _ ⟨_, _, _, s1, _⟩ => s1.seq hS) ?_ last⟩
      rintro i x st H1 H2 hi ⟨u1, u2, rfl, s1, hall⟩ ⟨T', y, rfl, hT', rfl, hy⟩
      refine ⟨T', _, rfl, .inl (.inl upd_same), rfl, _, _, rfl, _, _, rfl, rfl, ?_⟩
      have s2 : Same H (upd H1 T' (.tup [.int (i : Nat), y])) := same_new s1 hT'
      refine ⟨_, rfl, y, 0, 255, rfl, (hK y (List.mem_of_getElem? hy)).mono s2, _, rfl, ?_⟩
      rw [byte_btw]
      cases hb : byteV y with
      | true =>
        refine iteF ⟨_, _, rfl, s2, fun j z hj hz => ?_⟩
        rcases Nat.lt_succ_iff_lt_or_eq.mp hj with q | q
        · exact hall j z q hz
        · rw [q, hy] at hz
          cases hz
          exact hb
      | false =>
        refine iteT ⟨_, rfl, by show 1 ≤ 1000; decide, mk_read fun d hd => ?_⟩
        exact hbad i (find_first hy (fun j z hj hz => by rw [hall j z hj hz]; rfl) (by rw [hb]; rfl)) d _ (same_new s2 hd) upd_same
    · refine .inr ⟨_, rfl, p, xs, rfl, hS, for_it enT Pv start (fun i st H1 _ ⟨_, _, _, s1, _⟩ => Same.tup s1 hS) ?_ last⟩
      rintro i x st H1 H2 hi ⟨u1, u2, rfl, s1, hall⟩ ⟨T', y, rfl, hT', rfl, hy⟩
      refine ⟨T', _, rfl, .inl (.inl upd_same), rfl, _, _, rfl, _, _, rfl, rfl, ?_⟩
      have s2 : Same H (upd H1 T' (.tup [.int (i : Nat), y])) := same_new s1 hT'
      refine ⟨_, rfl, y, 0, 255, rfl, (hK y (List.mem_of_getElem? hy)).mono s2, _, rfl, ?_⟩
      rw [byte_btw]
      cases hb : byteV y with
      | true =>
        refine iteF ⟨_, _, rfl, s2, fun j z hj hz => ?_⟩
        rcases Nat.lt_succ_iff_lt_or_eq.mp hj with q | q
        · exact hall j z q hz
        · rw [q, hy] at hz
          cases hz
          exact hb
      | false =>
        refine iteT ⟨_, rfl, by show 1 ≤ 1000; decide, mk_read fun d hd => ?_⟩
        exact hbad i (find_first hy (fun j z hj hz => by rw [hall j z hj hz]; rfl) (by rw [hb]; rfl)) d _ (same_new s2 hd) upd_same
theorem scFrm : FnScope ["data", "place", "octet", "begin", "shape"] ["data"] (defScope sFrm) := ⟨rfl, rfl, rfl, by decide +kernel, rfl, by decide +kernel, by decide +kernel⟩
theorem ok_frm {f : Addr} {fd fdE : FuncData} (F : Fun K "check_frame" "check_frame" sFrm f fd) (T : Txt K mg a) (FE : Fun K "__init__" "Torn.__init__" sInitR a.fiR fdE) (bE : Binds K fdE ["self", "word", "place"] []) :
    FnOk P w K mg base (L2.CX P w) 3 f fd ["data"] (spFrm K a.cR) := by
  have GE : FnOk P w K mg base CX0 1 a.fiR fdE ["self", "word", "place"] (spEI2 a.cR) := ok_initR FE T
  refine F.okX scFrm (fun vs H Q E h => ?_) (fun cdv A outer s H vs Q E hr h => ?_)
  · obtain ⟨p, xs, rfl, _⟩ := h
    rfl
  · obtain ⟨p, xs, rfl, hS, hsh, hhd⟩ := h
    obtain ⟨t, gLL⟩ := T.gLL
    refine ⟨_, pss_cons (ps_if (pt_cmpR op_lt (pe_callB call_len_seq (by rfl) T.bLen PySem.boot_len (pa_cons (pv 0) pa_nil)) (pe_glob (v := .int 42) rfl gLL ⟨_, rfl⟩) (nomark _))
        (pss_one (ps_raise rfl (takes_of rfl rfl rfl rfl) (pmk_oex T.xR.ox T.xR.ini T.xR.ti GE hr bE .nil pass0 rfl T.gR (pa_cons pe_str (pa_cons (pe_callB call_len_seq (by rfl) T.bLen PySem.boot_len (pa_cons (pv 0) pa_nil)) pa_nil))))) pss_nil)
      (pss_cons (ps_for (passes_of rfl) rfl (pi_enumT (by rfl) T.bEnum (pa_cons (pe_glob (v := .ref a.aH) rfl T.gHd rfl) pa_nil))
        (pg_tup rfl (pgs_cons (pg_name (i := 1) scFrm.nd rfl (.inl rfl)) (pgs_cons (pg_name (i := 2) scFrm.nd rfl (.inl rfl)) pgs_nil)))
        (pss_one (ps_if (pt_cmpR op_ne (pe_ix ix_list (pv 0) (pv 1) (fun _ _ => rfl)) (pv 2) (nomark _))
          (pss_one (ps_raise rfl (takes_of rfl rfl rfl rfl) (pmk_oex T.xR.ox T.xR.ini T.xR.ti GE hr bE .nil pass0 rfl T.gR (pa_cons pe_str (pa_cons (pv 1) pa_nil))))) pss_nil)))
      pss_never), ?_⟩
    refine ⟨_, rfl, p, xs, rfl, .inl hS, _, _, rfl, rfl, _, rfl, ?_⟩
    by_cases hl : xs.length < 42
    · rw [decide_eq_true (by omega)]
      refine iteT ⟨_, rfl, p, xs, rfl, .inl hS, by show 2 ≤ 1000; decide, mk_read2 fun d hd => ?_⟩
      exact hsh hl d _ (same_new (Same.refl H) hd) upd_same
    · rw [decide_eq_false (by omega)]
      obtain ⟨⟨v, hv, nv⟩, ho⟩ := hhd (by omega)
      refine iteF ⟨a.aH, hdr, rfl, T.hd H, for_it enT (fun i st H1 => i = 0 ∧ st = [some (.ref p), none, none, none, none] ∧ Same H H1) ⟨rfl, rfl, Same.refl H⟩ (fun i st H1 _ _ => T.hd H1) ?_ ?_⟩
      · rintro i x st H1 H2 hi ⟨rfl, rfl, s1⟩ ⟨T', y, rfl, hT', rfl, hy⟩
        cases Option.some.inj hy
        have s2 : Same H (upd H1 T' (.tup [.int ((0 : Nat) : Int), .int 98])) := same_new s1 hT'
        refine ⟨T', _, rfl, .inl (.inl upd_same), rfl, _, _, rfl, _, _, rfl, rfl, ?_⟩
        refine ⟨_, rfl, _, rfl, p, xs, _, .int v, rfl, rfl, s2.seq hS, at_of (j := 0) rfl hv, _, rfl, rfl, _, rfl, ?_⟩
        refine ifNeT (fun q => nv (V.int.inj q)) ⟨_, rfl, by show 2 ≤ 1000; decide, mk_read2 fun d hd => ?_⟩
        exact ho d _ (same_new s2 hd) upd_same
      · rintro st H1 ⟨z, _⟩
        exact absurd z (by decide)
theorem scRead : FnScope ["data", "shape", "entries", "leaves", "number", "entry", "facts"] ["data"] (defScope sRead) := ⟨rfl, rfl, rfl, by decide +kernel, rfl, by decide +kernel, by decide +kernel⟩
theorem ok_read {f : Addr} {fd fdC fdF : FuncData} (F : Fun K "read" "read" sRead f fd) (T : Txt K mg a) (FC : Fun K "check_bytes" "check_bytes" sChk a.fChk fdC) (bC : Binds K fdC ["data"] []) (GC : FnOk P w K mg base (L2.CX P w) 3 a.fChk fdC ["data"] (spChk K a.cB))
    (FF : Fun K "check_frame" "check_frame" sFrm a.fFrm fdF) (bF : Binds K fdF ["data"] []) (GF : FnOk P w K mg base (L2.CX P w) 3 a.fFrm fdF ["data"] (spFrm K a.cR)) : FnOk P w K mg base (L2.CX P w) 4 f fd ["data"] (spRead K a) := by
  refine F.okX scRead (fun vs H Q E h => ?_) (fun cdv A outer s H vs Q E hr h => ?_)
  · obtain ⟨p, xs, rfl, _⟩ := h
    rfl
  · obtain ⟨p, xs, rfl, hS, hK, hbad, hgood⟩ := h
    refine ⟨_, pss_cons (ps_expr (pe_call GC hr rfl T.gChk FC.kp bC .nil (passes_call (takes_of rfl rfl rfl rfl) (fun _ _ _ _ q => q)) (pa_cons (pv 0) pa_nil)))
      (pss_cons (ps_expr (pe_call GF hr rfl T.gFrm FF.kp bF .nil (passes_call (takes_of rfl rfl rfl rfl) (fun _ _ _ _ q => q)) (pa_cons (pv 0) pa_nil))) pss_never), ?_⟩
    refine ⟨_, rfl, p, xs, rfl, hS, hK, hbad, fun hn H1 s1 => ?_⟩
    obtain ⟨h1, h2, h3⟩ := hgood hn
    exact ⟨_, rfl, p, xs, rfl, s1.seq h1, fun hl d H' s2 hd => h2 hl d H' (s1.trans s2) hd, fun hl => ⟨(h3 hl).1, fun d H' s2 hd => (h3 hl).2 d H' (s1.trans s2) hd⟩⟩
end
end G58

set_option Elab.async false
set_option linter.all false
set_option maxRecDepth 100000
set_option maxHeartbeats 4000000
/-! k19: the law's digits, octets, shuffles. -/
namespace G58
open PySem PySem.Spec PyProof.Rows L2
abbrev sSta : Stmt := topS 55
abbrev sDig : Stmt := topS 56
abbrev sOct : Stmt := topS 57
abbrev sShu : Stmt := topS 58
abbrev sLeaf : Stmt := topS 59
abbrev sBod : Stmt := topS 60
abbrev sAss : Stmt := topS 61
abbrev sIsb : Stmt := topS 62
abbrev sSaid : Stmt := topS 63
abbrev sLaw : Stmt := topS 64
structure Ld where
  (fSta fDig fOct fShu fLeaf fBod fAss fIsb fSaid : Addr)
structure LTx (mg : Str → Option Value) (l : Ld) : Prop where
  gSta : mg "_law_state" = some (.ref l.fSta)
  gDig : mg "_law_digit" = some (.ref l.fDig)
  gOct : mg "_law_octets" = some (.ref l.fOct)
  gShu : mg "_law_shuffled" = some (.ref l.fShu)
  gLeaf : mg "_law_leaf" = some (.ref l.fLeaf)
  gBod : mg "_law_bodies" = some (.ref l.fBod)
  gAss : mg "_law_assembled" = some (.ref l.fAss)
  gIsb : mg "_law_is_byte" = some (.ref l.fIsb)
  gSaid : mg "_law_said" = some (.ref l.fSaid)
  bAbs : mg "abs" = none
  bInt : mg "int" = none
  bBool : mg "bool" = none
  bLen : mg "len" = none
  bRange : mg "range" = none
  bList : mg "list" = none
  bTuple : mg "tuple" = none
  bIsinstance : mg "isinstance" = none
  bEnumerate : mg "enumerate" = none
/-- a state of draws stands at S -/
def SrcAt (H : Hp) (S : Addr) : Prop := ∃ x y z : Int, H S = some (.lst [.int x, .int y, .int z]) ∧ (0 ≤ y ∧ y < 4294967296) ∧ (0 ≤ z ∧ z < 4294967296)
def But (S : Addr) (H H' : Hp) : Prop := ∀ b o, H b = some o → b ≠ S → H' b = some o
theorem But.refl (S : Addr) (H : Hp) : But S H H := fun _ _ h _ => h
theorem But.trans {S : Addr} {H H1 H2 : Hp} (x : But S H H1) (y : But S H1 H2) : But S H H2 := fun b o h n => y b o (x b o h n) n
theorem But.same {S : Addr} {H H1 H2 : Hp} (x : But S H H1) (y : Same H1 H2) : But S H H2 := fun b o h n => y b o (x b o h n)
theorem But.upd {S : Addr} {H : Hp} {o : HO} : But S H (L2.upd H S o) := fun b u h n => by
  rw [upd_ne n]
  exact h
theorem Same.but {S : Addr} {H H1 : Hp} (x : Same H H1) : But S H H1 := fun b o h _ => x b o h
theorem src_same {H H' : Hp} {S : Addr} (h : SrcAt H S) (s : Same H H') : SrcAt H' S := by
  obtain ⟨x, y, z, q, r⟩ := h
  exact ⟨x, y, z, s _ _ q, r⟩
theorem src_ne {H : Hp} {S p : Addr} (h : SrcAt H S) (hp : H p = none) : p ≠ S := fun e => by
  obtain ⟨x, y, z, q, _⟩ := h
  rw [e, q] at hp
  cases hp
theorem src_put {H : Hp} {S p : Addr} {o : HO} (h : SrcAt H S) (n : p ≠ S) : SrcAt (upd H p o) S := by
  obtain ⟨x, y, z, q, r⟩ := h
  exact ⟨x, y, z, by rw [upd_ne n.symm]; exact q, r⟩
abbrev vInts (ns : List Nat) : List V := ns.map fun n => V.int (n : Nat)
theorem vInts_app (l r : List Nat) : vInts (l ++ r) = vInts l ++ vInts r := List.map_append ..
theorem vInts_rev (l : List Nat) : vInts l.reverse = (vInts l).reverse := List.map_reverse ..
def Bytes (ns : List Nat) : Prop := ∀ n ∈ ns, n < 256
theorem Bytes.app {l r : List Nat} (a : Bytes l) (b : Bytes r) : Bytes (l ++ r) := fun n h => (List.mem_append.mp h).elim (a n) (b n)
theorem Bytes.nil : Bytes [] := fun n h => nomatch h
theorem Bytes.one {n : Nat} (h : n < 256) : Bytes [n] := fun m hm => by
  rw [List.mem_singleton.mp hm]
  exact h
def spSta : Sp := fun vs H Q _ => ∃ n : Int, vs = [.int n] ∧ ∀ p H', H p = none → Same H H' → SrcAt H' p → Q (.ref p) H'
def spDig : Sp := fun vs H Q _ => ∃ (S : Addr) (m : Int), vs = [.ref S, .int m] ∧ SrcAt H S ∧ 0 < m ∧ m < 1073741824 ∧ ∀ (r : Nat) (H' : Hp), (r : Int) < m → SrcAt H' S → But S H H' → (∀ b, H b = none → H' b = none) → Q (.int (r : Nat)) H'
def spOct : Sp := fun vs H Q _ => ∃ (n : Int) (c : Nat), vs = [.int n, .int (c : Nat)] ∧ c ≤ 1000 ∧ ∀ (p : Addr) (H' : Hp) (ns : List Nat), H p = none → Same H H' → H' p = some (.lst (vInts ns)) → Bytes ns → ns.length = c → Q (.ref p) H'
def spShu : Sp := fun vs H Q _ => ∃ (S L : Addr) (ms : List Nat), vs = [.ref S, .ref L] ∧ SrcAt H S ∧ H L = some (.lst (vInts ms)) ∧ L ≠ S ∧ ms.length ≤ 1000 ∧
  ∀ (p : Addr) (H' : Hp) (ys : List Nat), H p = none → But S H H' → SrcAt H' S → H' p = some (.lst (vInts ys)) → (∀ y ∈ ys, y ∈ ms) → ys.length = ms.length → Q (.ref p) H'
def spIsb (K : PySem.W.Frag) : Sp := fun vs H Q _ => ∃ x, vs = [x] ∧ Kd K H x ∧ Q (.bl (byteV x)) H
section
variable {P : Program} {w : World} {K : PySem.W.Frag} {mg : Str → Option Value} {base : Heap} {l : Ld}
theorem scSta : FnScope ["_law_source"] ["_law_source"] (defScope sSta) := ⟨rfl, rfl, rfl, by decide +kernel, rfl, by decide +kernel, by decide +kernel⟩
theorem ok_sta {f : Addr} {fd : FuncData} (F : Fun K "_law_state" "_law_state" sSta f fd) (L : LTx mg l) : FnOk P w K mg base CX0 1 f fd ["_law_source"] spSta := by
  refine F.ok scSta (fun vs H Q E h => ?_) (fun cdv A outer s H vs Q E hr h => ?_)
  · obtain ⟨n, rfl, _⟩ := h
    rfl
  · obtain ⟨n, rfl, k⟩ := h
    refine ⟨_, (pss_cons (ps_set (i := 0) scSta.nd rfl (.inl rfl) (pe_callB call_abs (by rfl) L.bAbs (by decide +kernel) (pa_cons (pv 0) pa_nil))) (pss_one (ps_ret (pe_lst (pa_cons (pe_op op_mul (pv 0) (pe_callTy call_int1 (by rfl) L.bInt (by decide +kernel) (pa_cons (pe_cmpR op_ge (pv 0) (pe_op op_pow pe_int pe_int) (nomark _)) pa_nil))) (pa_cons (pe_op op_add (pe_op op_mod (pe_callTy call_int1 (by rfl) L.bInt (by decide +kernel) (pa_cons (pv 0) pa_nil)) pe_int) pe_int) (pa_cons (pe_op op_mod (pe_callTy call_int1 (by rfl) L.bInt (by decide +kernel) (pa_cons (pv 0) pa_nil)) pe_int) pa_nil))))))), ?_⟩
    refine ⟨_, rfl, n, rfl, ?_⟩
    generalize (if n < 0 then -n else n) = m
    refine ⟨_, rfl, _, rfl, _, _, rfl, rfl, ⟨by decide, by decide, by decide⟩, _, _, rfl, rfl, .inr ⟨_, rfl, _, _, rfl, rfl, .inr ?_, ?_⟩⟩
    · split <;> exact ⟨by decide, by decide⟩
    refine ⟨_, rfl, .inl ⟨_, rfl, _, _, rfl, rfl, by show (0 : Int) < 2147483629; decide, _, _, rfl, rfl, _, rfl, .inl ⟨_, rfl, _, _, rfl, rfl, by show (0 : Int) < 2147483587; decide, by show 3 ≤ sizeLine; decide, fun p hp => ?_⟩⟩⟩
    have a1 := Int.emod_nonneg m (show (2147483629 : Int) ≠ 0 by decide)
    have a2 := Int.emod_lt_of_pos m (show (0 : Int) < 2147483629 by decide)
    have a3 := Int.emod_nonneg m (show (2147483587 : Int) ≠ 0 by decide)
    have a4 := Int.emod_lt_of_pos m (show (0 : Int) < 2147483587 by decide)
    exact k p _ hp (same_new (Same.refl H) hp) ⟨_, _, _, upd_same, ⟨by omega, by omega⟩, ⟨by omega, by omega⟩⟩
theorem scDig : FnScope ["_law_state_here", "_law_base", "_law_found", "_law_mixed"] ["_law_state_here", "_law_base"] (defScope sDig) := ⟨rfl, rfl, rfl, by decide +kernel, rfl, by decide +kernel, by decide +kernel⟩
theorem ok_dig {f : Addr} {fd : FuncData} (F : Fun K "_law_digit" "_law_digit" sDig f fd) (L : LTx mg l) : FnOk P w K mg base CX0 1 f fd ["_law_state_here", "_law_base"] spDig := by
  refine F.ok scDig (fun vs H Q E h => ?_) (fun cdv A outer s H vs Q E hr h => ?_)
  · obtain ⟨S, m, rfl, _⟩ := h
    rfl
  · obtain ⟨S, m, rfl, ⟨x, y, z, hS, hy, hz⟩, h0, h1, k⟩ := h
    refine ⟨_, (pss_cons (ps_if (pt_cmpR op_gt (pe_ix ix_list (pv 0) pe_int (fun _ _ => rfl)) pe_int (nomark _)) (pss_cons (ps_set (i := 2) scDig.nd rfl (.inl rfl) (pe_op op_mod (pe_callTy call_int1 (by rfl) L.bInt (by decide +kernel) (pa_cons (pe_ix ix_list (pv 0) pe_int (fun _ _ => rfl)) pa_nil)) (pv 1))) (pss_cons (ps_asg (pe_op op_fdiv (pe_ix ix_list (pv 0) pe_int (fun _ _ => rfl)) (pv 1)) (pg_sub (pv 0) pe_int set_list)) (pss_one (ps_ret (pv 2))))) pss_nil) (pss_cons (ps_set (i := 3) scDig.nd rfl (.inl rfl) (pe_op op_mul (pe_ix ix_list (pv 0) pe_int (fun _ _ => rfl)) (pe_op op_add (pe_op op_fdiv (pe_ix ix_list (pv 0) pe_int (fun _ _ => rfl)) pe_int) pe_int))) (pss_cons (ps_asg (pe_op op_add (pe_op op_mod (pe_callTy call_int1 (by rfl) L.bInt (by decide +kernel) (pa_cons (pe_op op_add (pv 3) (pe_ix ix_list (pv 0) pe_int (fun _ _ => rfl))) pa_nil)) pe_int) pe_int) (pg_sub (pv 0) pe_int set_list)) (pss_one (ps_ret (pe_op op_mod (pe_callTy call_int1 (by rfl) L.bInt (by decide +kernel) (pa_cons (pe_op op_fdiv (pe_ix ix_list (pv 0) pe_int (fun _ _ => rfl)) pe_int) pa_nil)) (pv 1))))))), ?_⟩
    have at0 : ∀ {u v t : V}, atI [u, v, t] 0 = some u := rfl
    have at1 : ∀ {u v t : V}, atI [u, v, t] 1 = some v := rfl
    have at2 : ∀ {u v t : V}, atI [u, v, t] 2 = some t := rfl
    have fr : ∀ {o : HO}, ∀ b, H b = none → (upd H S o) b = none := fun b hb => by
      rw [upd_ne (ne_of_none hS hb).symm]
      exact hb
    have fin : ∀ (r : Int) (o : List V), 0 ≤ r → r < m → SrcAt (upd H S (.lst o)) S → Q (.int r) (upd H S (.lst o)) := fun r o r0 r1 hs => by
      have q := k r.toNat (upd H S (.lst o)) (by omega) hs But.upd fr
      rw [Int.toNat_of_nonneg r0] at q
      exact q
    refine ⟨_, rfl, S, _, _, _, rfl, rfl, .inl (.inl hS), at0, _, _, rfl, rfl, _, rfl, ?_⟩
    refine ite2 (fun _ => ?_) (fun _ => ?_)
    · refine ⟨_, rfl, S, _, _, _, rfl, rfl, .inl (.inl hS), at0, .inl ⟨_, rfl, _, rfl, _, _, rfl, rfl, h0, ?_⟩⟩
      refine ⟨_, rfl, S, _, _, _, rfl, rfl, .inl (.inl hS), at0, _, rfl, _, _, rfl, rfl, ⟨h0, h1⟩, _, rfl, S, _, _, 0, rfl, rfl, hS, rfl, ?_⟩
      exact ⟨_, rfl, fin _ _ (Int.emod_nonneg _ (by omega)) (Int.emod_lt_of_pos _ h0) ⟨_, _, _, upd_same, hy, hz⟩⟩
    · refine ⟨_, rfl, S, _, _, _, rfl, rfl, .inl (.inl hS), at1, _, rfl, S, _, _, _, rfl, rfl, .inl (.inl hS), at1, _, _, rfl, rfl, ⟨by decide, by decide⟩, _, _, rfl, rfl, _, _, rfl, rfl, .inl ⟨by omega, by omega⟩, ?_⟩
      refine ⟨_, rfl, _, rfl, S, _, _, _, rfl, rfl, .inl (.inl hS), at2, _, _, rfl, rfl, .inl ⟨_, rfl, _, _, rfl, rfl, by show (0 : Int) < 2147483629; decide, _, _, rfl, rfl, _, rfl, S, _, _, 1, rfl, rfl, hS, rfl, ?_⟩⟩
      generalize (y * (y / 1009 + 69621) + z : Int) = q
      have a1 := Int.emod_nonneg q (show (2147483629 : Int) ≠ 0 by decide)
      have a2 := Int.emod_lt_of_pos q (show (0 : Int) < 2147483629 by decide)
      refine ⟨_, rfl, S, _, _, _, rfl, rfl, .inl (.inl upd_same), at1, _, _, rfl, rfl, ⟨by decide, by decide⟩, .inl ⟨_, rfl, _, rfl, _, _, rfl, rfl, h0, ?_⟩⟩
      exact fin _ _ (Int.emod_nonneg _ (by omega)) (Int.emod_lt_of_pos _ h0) ⟨_, _, _, upd_same, ⟨by omega, by omega⟩, hz⟩
theorem scOct : FnScope ["_law_number", "_law_count", "_law_found", "_law_turn"] ["_law_number", "_law_count"] (defScope sOct) := ⟨rfl, rfl, rfl, by decide +kernel, rfl, by decide +kernel, by decide +kernel⟩
theorem ok_oct {f : Addr} {fd : FuncData} (F : Fun K "_law_octets" "_law_octets" sOct f fd) (L : LTx mg l) : FnOk P w K mg base CX0 1 f fd ["_law_number", "_law_count"] spOct := by
  refine F.ok scOct (fun vs H Q E h => ?_) (fun cdv A outer s H vs Q E hr h => ?_)
  · obtain ⟨n, c, rfl, _⟩ := h
    rfl
  · obtain ⟨n, c, rfl, hc, k⟩ := h
    refine ⟨_, (pss_cons (ps_set (i := 2) scOct.nd rfl (.inl rfl) (pe_lst pa_nil)) (pss_cons (ps_for PassesOwn.never rfl (pi_range1 (by rfl) L.bRange (pa_cons (pv 1) pa_nil)) (pg_name (i := 3) scOct.nd rfl (.inl rfl)) (pss_cons (ps_expr (pe_bm PySem.F.plainAttrs_list PySem.F.slot_list_append PySem.F.type_list_append mt_append (pv 2) (pa_cons (pe_op op_mod (pe_callTy call_int1 (by rfl) L.bInt (by decide +kernel) (pa_cons (pv 0) pa_nil)) pe_int) pa_nil))) (pss_one (ps_set (i := 0) scOct.nd rfl (.inl rfl) (pe_op op_fdiv (pv 0) pe_int))))) (pss_one (ps_ret (pe_revL (pv 2)))))), ?_⟩
    refine ⟨Nat.zero_le _, fun D hD => ?_⟩
    refine ⟨_, rfl, (c : Int), rfl, by omega, by omega, for_it walk_range (fun i st H1 => ∃ (m : Int) (u : Option V) (ns : List Nat), st = [some (.int m), some (.int (c : Nat)), some (.ref D), u] ∧ Same H H1 ∧ H1 D = some (.lst (vInts ns)) ∧ Bytes ns ∧ ns.length = i)
      ⟨n, none, [], rfl, same_new (Same.refl H) hD, upd_same, Bytes.nil, rfl⟩ (fun _ _ _ _ _ => True.intro) ?_ ?_⟩
    · rintro i x st H1 _ hi ⟨m, u, ns, rfl, s1, h1, hb, hl⟩ ⟨rfl, rfl⟩
      have hi' : i < c := by
        have z : i < (c : Int).toNat := hi
        omega
      refine ⟨_, rfl, .inl ⟨rfl, _, .inl (.inl h1)⟩, _, rfl, .inl ⟨_, rfl, _, _, rfl, rfl, by show (0 : Int) < 256; decide, D, _, _, rfl, rfl, h1, ?_, ?_⟩⟩
      · rw [List.length_map, hl]
        exact Nat.lt_of_le_of_lt (by omega : i ≤ 1000) (by decide)
      refine ⟨_, rfl, _, _, rfl, rfl, ⟨by decide, by decide⟩, ?_⟩
      have b0 := Int.emod_nonneg m (show (256 : Int) ≠ 0 by decide)
      have b1 := Int.emod_lt_of_pos m (show (0 : Int) < 256 by decide)
      refine ⟨_, _, ns ++ [(m % 256).toNat], rfl, fun b o e => ?_, ?_, hb.app (Bytes.one (by omega)), by rw [List.length_append, hl]; rfl⟩
      · rw [upd_ne (ne_of_none e hD)]
        exact s1 b o e
      · rw [upd_same, vInts_app]
        show some (HO.lst (vInts ns ++ [.int (m % 256)])) = some (HO.lst (vInts ns ++ [.int ((m % 256).toNat : Nat)]))
        rw [Int.toNat_of_nonneg b0]
    · rintro st H1 ⟨m, u, ns, rfl, s1, h1, hb, hl⟩
      have hl' : ns.length = c := by
        have z : ns.length = (c : Int).toNat := hl
        omega
      refine ⟨_, rfl, D, _, rfl, .inl (.inl h1), fun p hp => ?_⟩
      refine k p _ ns.reverse (s1.free hp) (same_new s1 hp) ?_ (fun n hn => hb n (List.mem_reverse.mp hn)) (by rw [List.length_reverse]; exact hl')
      rw [upd_same, vInts_rev]
theorem scIsb : FnScope ["_law_one"] ["_law_one"] (defScope sIsb) := ⟨rfl, rfl, rfl, by decide +kernel, rfl, by decide +kernel, by decide +kernel⟩
theorem ok_isb {f : Addr} {fd : FuncData} (F : Fun K "_law_is_byte" "_law_is_byte" sIsb f fd) (L : LTx mg l) : FnOk P w K mg base CX0 1 f fd ["_law_one"] (spIsb K) := by
  refine F.ok scIsb (fun vs H Q E h => ?_) (fun cdv A outer s H vs Q E hr h => ?_)
  · obtain ⟨x, rfl, _⟩ := h
    rfl
  · obtain ⟨x, rfl, kd, k⟩ := h
    refine ⟨_, (pss_one (ps_ret (pe_and (pe_callB call_isi (by rfl) L.bIsinstance (by decide +kernel) (pa_cons (pv 0) (pa_cons (pe_bltn (v := .ty "int") rfl L.bInt (by decide +kernel) rfl) pa_nil))) (pe_and (pe_not (pe_callB call_isi (by rfl) L.bIsinstance (by decide +kernel) (pa_cons (pv 0) (pa_cons (pe_bltn (v := .ty "bool") rfl L.bBool (by decide +kernel) rfl) pa_nil)))) (pe_one (pe_chain op_le op_le pe_int (pv 0) pe_int)))))), ?_⟩
    obtain ⟨t, b1, b2, ty, k1, k2, e⟩ := kd.isi
    refine ⟨_, rfl, x, .ty "int", t, _, b1, rfl, .ty _, ty, k1, _, rfl, ?_⟩
    have hx : intV x = false → byteV x = false := fun z => by cases x <;> first | rfl | cases z
    cases b1 with
    | false =>
      have z : byteV x = false := hx (by rw [← e]; rfl)
      rw [z] at k
      exact iteF k
    | true =>
      refine iteT ⟨_, rfl, x, .ty "bool", t, _, b2, rfl, .ty _, ty, k2, _, rfl, _, rfl, ?_⟩
      cases b2 with
      | true =>
        have z : byteV x = false := hx (by rw [← e]; rfl)
        rw [z] at k
        exact iteF k
      | false =>
        have z : intV x = true := by rw [← e]; rfl
        cases x with
        | int i =>
          refine iteT ⟨_, rfl, _, _, rfl, rfl, _, rfl, ?_⟩
          have q : byteV (.int i) = (decide (0 ≤ i) && decide (i ≤ 255)) := rfl
          rw [q] at k
          cases c : decide (0 ≤ i) with
          | true =>
            rw [c, Bool.true_and] at k
            exact iteT ⟨_, _, rfl, rfl, k⟩
          | false =>
            rw [c, Bool.false_and] at k
            exact iteF k
        | _ => cases z
end
end G58

set_option Elab.async false
set_option linter.all false
set_option maxRecDepth 100000
set_option maxHeartbeats 4000000
/-! k19: rows of bytes that are made; shuffles; leaves. -/
namespace G58
open PySem PySem.Spec PyProof.Rows L2
/-- an expression that makes a new list of at most n bytes -/
def MkB (n : Nat) (te : TE) : Prop := ∀ (st : L2.St) (H : Hp) (Q : VK), (∀ (p : Addr) (H' : Hp) (ns : List Nat), H p = none → Same H H' → H' p = some (.lst (vInts ns)) → Bytes ns → ns.length ≤ n → Q (.ref p) H') → te st H Q
def tNats : List Nat → TA
  | [] => tNil
  | n :: r => tCons (tC (.int (n : Nat))) (tNats r)
theorem nats_read : ∀ (ns : List Nat) {st : L2.St} {H : Hp} {Q : List V → Hp → Prop}, Q (vInts ns) H → tNats ns st H Q
  | [], _, _, _, h => h
  | n :: r, st, H, Q, h => nats_read r (Q := fun xs H2 => Q (.int (n : Nat) :: xs) H2) h
theorem mkb_lit (ns : List Nat) (hb : Bytes ns) (hl : ns.length ≤ 1000) : MkB ns.length (tLst (tNats ns)) := fun st H Q k => by
  refine nats_read ns ⟨?_, fun p hp => k p _ ns hp (same_new (Same.refl H) hp) upd_same hb (Nat.le_refl _)⟩
  rw [List.length_map]
  exact Nat.le_trans hl (by decide)
theorem MkB.le {n m : Nat} {te : TE} (h : MkB n te) (hm : n ≤ m) : MkB m te := fun st H Q k => h st H Q fun p H' ns h1 h2 h3 h4 h5 => k p H' ns h1 h2 h3 h4 (Nat.le_trans h5 hm)
theorem mkb_cat {n m : Nat} {t u : TE} (h1 : MkB n t) (h2 : MkB m u) (hl : n + m ≤ 1000) : MkB (n + m) (tOp rCat t u) := fun st H Q k =>
  h1 st H _ fun p H1 ns p1 s1 e1 b1 l1 => h2 st H1 _ fun q H2 ms p2 s2 e2 b2 l2 => by
    refine ⟨p, q, _, _, rfl, rfl, s2 _ _ e1, e2, ?_, fun c hc => ?_⟩
    · rw [List.length_map, List.length_map]
      exact Nat.le_trans (by omega : _ ≤ 1000) (by decide)
    · refine k c _ (ns ++ ms) (s1.free (s2.free hc)) (same_new (s1.trans s2) hc) ?_ (b1.app b2) (by rw [List.length_append]; omega)
      rw [upd_same, vInts_app]
theorem flat_ints (k : Nat) (ns : List Nat) : (List.replicate k (vInts ns)).flatten = vInts (List.replicate k ns).flatten := by
  induction k with
  | zero => rfl
  | succ k ih => rw [List.replicate_succ, List.replicate_succ, List.flatten_cons, List.flatten_cons, vInts_app, ih]
theorem flat_len (k : Nat) (ns : List Nat) : (List.replicate k ns).flatten.length = k * ns.length := by
  induction k with
  | zero => simp
  | succ k ih => rw [List.replicate_succ, List.flatten_cons, List.length_append, ih, Nat.succ_mul, Nat.add_comm]
theorem flat_bytes {k : Nat} {ns : List Nat} (hb : Bytes ns) : Bytes (List.replicate k ns).flatten := fun n hn => by
  obtain ⟨l, hl, hn⟩ := List.mem_flatten.mp hn
  rw [List.eq_of_mem_replicate hl] at hn
  exact hb n hn
theorem mkb_rep {n k : Nat} {t : TE} (h : MkB n t) (hl : n * k ≤ 1000) (hk : k ≤ 1000) : MkB (n * k) (tOp rRep t (tC (.int (k : Nat)))) := fun st H Q q =>
  h st H _ fun p H1 ns p1 s1 e1 b1 l1 => by
    have hm : k * ns.length ≤ n * k := by
      rw [Nat.mul_comm]
      exact Nat.mul_le_mul_right k l1
    refine ⟨p, (k : Nat), _, rfl, rfl, e1, by omega, by omega, ?_, fun c hc => ?_⟩
    · rw [List.length_map, Int.toNat_natCast, Nat.mul_comm]
      exact Nat.le_trans (Nat.le_trans hm hl) (by decide)
    · refine q c _ (List.replicate k ns).flatten (s1.free hc) (same_new s1 hc) ?_ (flat_bytes b1) (by rw [flat_len]; exact hm)
      rw [upd_same, Int.toNat_natCast, flat_ints]
/-- a reference to a list of at most fifty bytes, other than S -/
def BRef (S : Addr) (H : Hp) (r : V) : Prop := ∃ (p : Addr) (ns : List Nat), r = .ref p ∧ p ≠ S ∧ H p = some (.lst (vInts ns)) ∧ Bytes ns ∧ ns.length ≤ 50
theorem BRef.but {S : Addr} {H H' : Hp} {r : V} (b : But S H H') (h : BRef S H r) : BRef S H' r := by
  obtain ⟨p, ns, e, n, hp, q⟩ := h
  exact ⟨p, ns, e, n, b _ _ hp n, q⟩
theorem BRef.same {S : Addr} {H H' : Hp} {r : V} (b : Same H H') (h : BRef S H r) : BRef S H' r := h.but (Same.but b)
/-- a row of n such references -/
def RwA (n : Nat) (ta : TA) : Prop := ∀ (S : Addr) (st : L2.St) (H : Hp) (Q : List V → Hp → Prop), H S ≠ none → (∀ (rs : List V) (H' : Hp), Same H H' → rs.length = n → (∀ r ∈ rs, BRef S H' r) → Q rs H') → ta st H Q
theorem rwa_nil : RwA 0 tNil := fun S st H Q _ k => k [] H (Same.refl H) rfl fun r h => nomatch h
theorem rwa_cons {n m : Nat} {t : TE} {ta : TA} (h : MkB n t) (hn : n ≤ 50) (ha : RwA m ta) : RwA (m + 1) (tCons t ta) := fun S st H Q hS k =>
  h st H _ fun p H1 ns p1 s1 e1 b1 l1 => ha S st H1 _ (fun z => by
      cases q : H S with
      | none => exact hS q
      | some o => rw [s1 _ _ q] at z; cases z) fun rs H2 s2 l2 b2 => k (.ref p :: rs) H2 (s1.trans s2) (by rw [List.length_cons, l2]) fun r hr => by
    rcases List.mem_cons.mp hr with rfl | hr
    · exact ⟨p, ns, rfl, fun z => hS (by rw [← z]; exact p1), s2 _ _ e1, b1, Nat.le_trans l1 hn⟩
    · exact b2 r hr
theorem rows_lst {n : Nat} {ta : TA} (h : RwA n ta) (hn : n ≤ 1000) {S : Addr} {st : L2.St} {H : Hp} {Q : VK} (hS : H S ≠ none)
    (k : ∀ (p : Addr) (H' : Hp) (rs : List V), H p = none → Same H H' → H' p = some (.lst rs) → rs.length = n → (∀ r ∈ rs, BRef S H' r) → Q (.ref p) H') : tLst ta st H Q :=
  h S st H _ hS fun rs H1 s1 l1 b1 => ⟨by rw [l1]; exact Nat.le_trans hn (by decide), fun p hp => k p _ rs (s1.free hp) (same_new s1 hp) upd_same l1 fun r hr => (b1 r hr).same (same_new (Same.refl H1) hp)⟩
theorem SrcAt.ne {H : Hp} {S : Addr} (h : SrcAt H S) : H S ≠ none := fun e => by
  obtain ⟨x, y, z, q, _⟩ := h
  rw [q] at e
  cases e
theorem erase_ints : ∀ (l : List Nat) (r : Nat), (vInts l).eraseIdx r = vInts (l.eraseIdx r)
  | [], _ => rfl
  | _ :: _, 0 => rfl
  | n :: l, r + 1 => congrArg (V.int (n : Nat) :: ·) (erase_ints l r)
def dInts (ns : List Nat) : PyData := .list (ns.map fun n => PyData.int (n : Nat))
theorem dp_ints {K : PySem.W.Frag} {H : Hp} {p : Addr} {ns : List Nat} (h : SqL K H p (vInts ns)) : Dp K H (.ref p) (dInts ns) := by
  refine .lst h ?_
  clear h
  induction ns with
  | nil => exact .nil
  | cons n r ih => exact .cons (.int _) ih
theorem lay_ints (ns : List Nat) : PyData.canLay0 (dInts ns) = true := by
  show PyData.canLayAll0 _ = true
  induction ns with
  | nil => rfl
  | cons n r ih =>
    show (PyData.canLay0 (.int _) && PyData.canLayAll0 _) = true
    rw [ih]
    rfl
theorem depth_ints (ns : List Nat) : PyData.depthAll (ns.map fun n => PyData.int (n : Nat)) = 0 := by
  induction ns with
  | nil => rfl
  | cons n r ih =>
    show max 0 _ = 0
    rw [ih]
    rfl
theorem shaped_ints (ns : List Nat) : SeqAt.shaped (dInts ns) = true := by
  unfold SeqAt.shaped
  rw [lay_ints]
  have e : PyData.depth (dInts ns) = 0 + 1 := congrArg (· + 1) (depth_ints ns)
  rw [e]
  rfl
theorem eqv_nil (ns : List Nat) : PyData.eqv (dInts ns) (dInts []) = decide (ns = []) := by
  cases ns with
  | nil => rfl
  | cons n r => rfl
section
variable {P : Program} {w : World} {K : PySem.W.Frag} {mg : Str → Option Value} {base : Heap} {l : Ld}
theorem scShu : FnScope ["_law_s", "_law_items", "_law_left", "_law_found"] ["_law_s", "_law_items"] (defScope sShu) := ⟨rfl, rfl, rfl, by decide +kernel, rfl, by decide +kernel, by decide +kernel⟩
theorem ok_shu {f : Addr} {fd fdD : FuncData} (F : Fun K "_law_shuffled" "_law_shuffled" sShu f fd) (L : LTx mg l) (FD : Fun K "_law_digit" "_law_digit" sDig l.fDig fdD) (bD : Binds K fdD ["_law_state_here", "_law_base"] []) :
    FnOk P w K mg base CX0 2 f fd ["_law_s", "_law_items"] spShu := by
  have GD : FnOk P w K mg base CX0 1 l.fDig fdD ["_law_state_here", "_law_base"] spDig := ok_dig FD L
  refine F.ok scShu (fun vs H Q E h => ?_) (fun cdv A outer s H vs Q E hr h => ?_)
  · obtain ⟨S, L0, ms, rfl, _⟩ := h
    rfl
  · obtain ⟨S, L0, ms, rfl, hS, hL, nL, hl, k⟩ := h
    have hr1 : Room 1 _ := hr
    refine ⟨_, (pss_cons (ps_set (i := 2) scShu.nd rfl (.inl rfl) (pe_callTy call_list_of (by rfl) L.bList (by decide +kernel) (pa_cons (pv 1) pa_nil))) (pss_cons (ps_set (i := 3) scShu.nd rfl (.inl rfl) (pe_lst pa_nil)) (pss_cons (ps_while PassesOwn.never (pt_cmpR (op_neD hr.units) (pv 2) (pe_lst pa_nil) (nomark _)) (pss_one (ps_expr (pe_bm PySem.F.plainAttrs_list PySem.F.slot_list_append PySem.F.type_list_append mt_append (pv 3) (pa_cons (pe_bm PySem.F.plainAttrs_list PySem.F.slot_list_pop PySem.F.type_list_pop mt_popAt (pv 2) (pa_cons (pe_call GD hr1 rfl L.gDig FD.kp bD .nil pass0 (pa_cons (pv 0) (pa_cons (pe_callB call_len_seq (by rfl) L.bLen PySem.boot_len (pa_cons (pv 2) pa_nil)) pa_nil))) pa_nil)) pa_nil))))) (pss_one (ps_ret (pv 3)))))), ?_⟩
    refine ⟨_, rfl, L0, _, rfl, .inl (.inl (.inl hL)), fun A1 hA1 => ⟨Nat.zero_le _, fun F1 hF1 => ?_⟩⟩
    have nA : A1 ≠ S := src_ne hS hA1
    have sA : Same H (upd H A1 (.lst (vInts ms))) := same_new (Same.refl H) hA1
    have nF : F1 ≠ S := src_ne (src_same hS sA) hF1
    have nAF : A1 ≠ F1 := ne_of_none upd_same hF1
    refine while_by (fun st H1 => ∃ (ls ys : List Nat), st = [some (.ref S), some (.ref L0), some (.ref A1), some (.ref F1)] ∧ SrcAt H1 S ∧ But S H H1 ∧ H1 A1 = some (.lst (vInts ls)) ∧ H1 F1 = some (.lst (vInts ys)) ∧ (∀ y ∈ ls, y ∈ ms) ∧ (∀ y ∈ ys, y ∈ ms) ∧ ls.length + ys.length = ms.length)
      (fun st H1 => match H1 A1 with | some (.lst xs) => xs.length | _ => 0) ?_ ?_ ?_
    · exact ⟨ms, [], rfl, src_same hS (same_new sA hF1), Same.but (same_new sA hF1), by rw [upd_ne nAF]; exact upd_same, upd_same, fun y h => h, (fun y h => nomatch h), rfl⟩
    · rintro st H1 ⟨ls, ys, rfl, hS1, hB1, hA, hF, hm1, hm2, hln⟩
      refine ⟨_, rfl, Nat.zero_le _, fun q hq => ?_⟩
      have sq : Same H1 (upd H1 q (.lst [])) := same_new (Same.refl H1) hq
      refine ⟨dInts ls, dInts [], dp_ints (.inl (.inl (sq _ _ hA))), dp_ints (.inl (.inl upd_same)), shaped_ints _, shaped_ints _, _, rfl, ?_⟩
      rw [eqv_nil]
      cases ls with
      | nil =>
        refine iteF ?_
        have z : ys.length = ms.length := by
          have z := hln
          rw [List.length_nil, Nat.zero_add] at z
          exact z
        exact ⟨_, rfl, k F1 _ ys (sA.free hF1) (hB1.same sq) (src_same hS1 sq) (sq _ _ hF) hm2 z⟩
      | cons z0 zs =>
        refine iteT ?_
        have lpos : (vInts (z0 :: zs)).length = zs.length + 1 := by rw [List.length_map]; rfl
        refine ⟨_, rfl, .inl ⟨rfl, _, .inl (.inl (sq _ _ hF))⟩, _, rfl, .inl ⟨rfl, _, .inl (.inl (sq _ _ hA))⟩, _, rfl, _, rfl, A1, _, rfl, .inl (.inl (.inl (sq _ _ hA))), S, _, rfl, src_same hS1 sq, by rw [lpos]; omega, ?_, fun r H2 hr2 hS2 hB2 _ => ?_⟩
        · rw [lpos]
          have : zs.length + 1 ≤ 1000 := by
            have z := hln
            rw [List.length_cons] at z
            omega
          omega
        rw [lpos] at hr2
        have hrl : r < (z0 :: zs).length := by
          rw [List.length_cons]
          omega
        have hA2 : H2 A1 = some (.lst (vInts (z0 :: zs))) := hB2 _ _ (sq _ _ hA) nA
        have hF2 : H2 F1 = some (.lst (vInts ys)) := hB2 _ _ (sq _ _ hF) nF
        refine ⟨A1, _, _, r, .int ((z0 :: zs)[r] : Nat), rfl, rfl, hA2, by omega, by omega, ?_, ?_, ?_⟩
        · unfold seqIndex?
          rw [lpos]
          have c1 : ¬ ((r : Int) < 0) := by omega
          simp only [c1, if_false]
          have c2 : (0 : Int) ≤ (r : Int) ∧ (r : Int) < ((zs.length + 1 : Nat) : Int) := ⟨by omega, by omega⟩
          simp [c2]
          omega
        · rw [List.getElem?_map, List.getElem?_eq_getElem hrl]
          rfl
        have lE : ((z0 :: zs).eraseIdx r).length = zs.length := by
          rw [List.length_eraseIdx_of_lt hrl]
          rfl
        have eE : (vInts (z0 :: zs)).eraseIdx r = vInts ((z0 :: zs).eraseIdx r) := erase_ints _ _
        refine ⟨F1, _, _, rfl, rfl, by rw [upd_ne nAF.symm]; exact hF2, ?_, ⟨(z0 :: zs).eraseIdx r, ys ++ [(z0 :: zs)[r]], rfl, src_put (src_put hS2 nA) nF, ?_, ?_, ?_, ?_, ?_, ?_⟩, ?_⟩
        · rw [List.length_map]
          exact Nat.lt_of_le_of_lt (by omega : ys.length ≤ 1000) (by decide)
        · intro b o e n
          have e2 := hB2 _ _ ((hB1.same sq) b o e n) n
          have b1 : b ≠ F1 := ne_of_none e (sA.free hF1)
          have b2 : b ≠ A1 := ne_of_none e hA1
          rw [upd_ne b1, upd_ne b2]
          exact e2
        · rw [upd_ne nAF, upd_same, eE]
        · rw [upd_same, vInts_app]
          rfl
        · exact fun y hy => hm1 y (List.mem_of_mem_eraseIdx hy)
        · intro y hy
          rcases List.mem_append.mp hy with hy | hy
          · exact hm2 y hy
          · rw [List.mem_singleton.mp hy]
            exact hm1 _ (List.getElem_mem hrl)
        · rw [lE, List.length_append]
          have z := hln
          rw [List.length_cons] at z
          show zs.length + (ys.length + 1) = ms.length
          omega
        · show (match upd (upd H2 A1 _) F1 _ A1 with | some (.lst xs) => xs.length | _ => 0) < (match H1 A1 with | some (.lst xs) => xs.length | _ => 0)
          rw [upd_ne nAF, upd_same, hA]
          show ((vInts (z0 :: zs)).eraseIdx r).length < (vInts (z0 :: zs)).length
          rw [eE, List.length_map, lE, lpos]
          omega
    · intro st H1 Q1 Q2 hQ h
      obtain ⟨v, hv, h0, h1⟩ := h
      refine ⟨v, hv, h0, fun q hq => ?_⟩
      obtain ⟨d, e, h2, h3, h4, h5, c, h6, h7⟩ := h1 q hq
      exact ⟨d, e, h2, h3, h4, h5, c, h6, hQ _ _ h7⟩
end
end G58

set_option Elab.async false
set_option linter.all false
set_option maxRecDepth 100000
set_option maxHeartbeats 4000000
/-! k19: leaves. -/
namespace G58
open PySem PySem.Spec PyProof.Rows L2
def spLf : Sp := fun vs H Q _ => ∃ S : Addr, vs = [.ref S] ∧ SrcAt H S ∧ ∀ (r : V) (H' : Hp), But S H H' → SrcAt H' S → BRef S H' r → Q r H'
theorem rd_asg {te : TE} {g : TG} {r : TS} {D} {σ : L2.St} {H : Hp} (h : te σ H (fun x H1 => g x σ H1 (r D))) : tSeq (tAsg te g) r D σ H := h
theorem rd_var {i : Nat} {v : V} {r : R2} {tb : TE} {σ : L2.St} {H : Hp} {Q : VK} (e : σ[i]? = some (some v)) (h : tb σ H (fun y H2 => r v y H2 Q)) : tOp r (tVar i) tb σ H Q := ⟨v, e, h⟩
theorem row0 : RwA 8 (tCons (tLst (tCons (tC (.int 0)) tNil)) (tCons (tLst (tCons (tC (.int 8)) tNil)) (tCons (tLst (tCons (tC (.int 9)) tNil)) (tCons (tLst (tCons (tC (.int 16)) (tCons (tC (.int 200)) tNil))) (tCons (tLst (tCons (tC (.int 17)) (tCons (tC (.int 1)) (tCons (tC (.int 2)) tNil)))) (tCons (tLst (tCons (tC (.int 18)) (tCons (tC (.int 0)) (tCons (tC (.int 0)) (tCons (tC (.int 0)) (tCons (tC (.int 1)) tNil)))))) (tCons (tOp rCat (tLst (tCons (tC (.int 19)) tNil)) (tOp rRep (tLst (tCons (tC (.int 255)) tNil)) (tC (.int 8)))) (tCons (tOp rCat (tOp rCat (tLst (tCons (tC (.int 20)) tNil)) (tOp rRep (tLst (tCons (tC (.int 0)) tNil)) (tC (.int 8)))) (tOp rRep (tLst (tCons (tC (.int 255)) tNil)) (tC (.int 8)))) tNil)))))))) := (rwa_cons (mkb_lit [0] (by unfold Bytes; decide +kernel) (by decide)) (by decide) (rwa_cons (mkb_lit [8] (by unfold Bytes; decide +kernel) (by decide)) (by decide) (rwa_cons (mkb_lit [9] (by unfold Bytes; decide +kernel) (by decide)) (by decide) (rwa_cons (mkb_lit [16, 200] (by unfold Bytes; decide +kernel) (by decide)) (by decide) (rwa_cons (mkb_lit [17, 1, 2] (by unfold Bytes; decide +kernel) (by decide)) (by decide) (rwa_cons (mkb_lit [18, 0, 0, 0, 1] (by unfold Bytes; decide +kernel) (by decide)) (by decide) (rwa_cons (mkb_cat (mkb_lit [19] (by unfold Bytes; decide +kernel) (by decide)) (mkb_rep (k := 8) (mkb_lit [255] (by unfold Bytes; decide +kernel) (by decide)) (by decide) (by decide)) (by decide)) (by decide) (rwa_cons (mkb_cat (mkb_cat (mkb_lit [20] (by unfold Bytes; decide +kernel) (by decide)) (mkb_rep (k := 8) (mkb_lit [0] (by unfold Bytes; decide +kernel) (by decide)) (by decide) (by decide)) (by decide)) (mkb_rep (k := 8) (mkb_lit [255] (by unfold Bytes; decide +kernel) (by decide)) (by decide) (by decide)) (by decide)) (by decide) rwa_nil))))))))
theorem row1 : RwA 9 (tCons (tLst (tCons (tC (.int 64)) tNil)) (tCons (tLst (tCons (tC (.int 66)) (tCons (tC (.int 7)) (tCons (tC (.int 7)) tNil)))) (tCons (tLst (tCons (tC (.int 81)) (tCons (tC (.int 97)) tNil))) (tCons (tLst (tCons (tC (.int 82)) (tCons (tC (.int 98)) (tCons (tC (.int 37)) tNil)))) (tCons (tLst (tCons (tC (.int 80)) tNil)) (tCons (tLst (tCons (tC (.int 97)) (tCons (tC (.int 0)) (tCons (tC (.int 97)) tNil)))) (tCons (tLst (tCons (tC (.int 98)) (tCons (tC (.int 0)) (tCons (tC (.int 97)) (tCons (tC (.int 1)) (tCons (tC (.int 2)) tNil)))))) (tCons (tLst (tCons (tC (.int 81)) (tCons (tC (.int 10)) tNil))) (tCons (tLst (tCons (tC (.int 128)) (tCons (tC (.int 5)) tNil))) tNil))))))))) := (rwa_cons (mkb_lit [64] (by unfold Bytes; decide +kernel) (by decide)) (by decide) (rwa_cons (mkb_lit [66, 7, 7] (by unfold Bytes; decide +kernel) (by decide)) (by decide) (rwa_cons (mkb_lit [81, 97] (by unfold Bytes; decide +kernel) (by decide)) (by decide) (rwa_cons (mkb_lit [82, 98, 37] (by unfold Bytes; decide +kernel) (by decide)) (by decide) (rwa_cons (mkb_lit [80] (by unfold Bytes; decide +kernel) (by decide)) (by decide) (rwa_cons (mkb_lit [97, 0, 97] (by unfold Bytes; decide +kernel) (by decide)) (by decide) (rwa_cons (mkb_lit [98, 0, 97, 1, 2] (by unfold Bytes; decide +kernel) (by decide)) (by decide) (rwa_cons (mkb_lit [81, 10] (by unfold Bytes; decide +kernel) (by decide)) (by decide) (rwa_cons (mkb_lit [128, 5] (by unfold Bytes; decide +kernel) (by decide)) (by decide) rwa_nil)))))))))
theorem row2 : RwA 5 (tCons (tLst (tCons (tC (.int 130)) (tCons (tC (.int 1)) (tCons (tC (.int 2)) (tCons (tC (.int 3)) tNil))))) (tCons (tLst (tCons (tC (.int 34)) (tCons (tC (.int 1)) (tCons (tC (.int 2)) (tCons (tC (.int 3)) (tCons (tC (.int 4)) tNil)))))) (tCons (tOp rCat (tLst (tCons (tC (.int 35)) tNil)) (tOp rRep (tLst (tCons (tC (.int 9)) tNil)) (tC (.int 8)))) (tCons (tOp rCat (tLst (tCons (tC (.int 51)) tNil)) (tOp rRep (tLst (tCons (tC (.int 1)) tNil)) (tC (.int 8)))) (tCons (tOp rCat (tLst (tCons (tC (.int 95)) (tCons (tC (.int 16)) (tCons (tC (.int 15)) tNil)))) (tOp rRep (tLst (tCons (tC (.int 99)) tNil)) (tC (.int 15)))) tNil))))) := (rwa_cons (mkb_lit [130, 1, 2, 3] (by unfold Bytes; decide +kernel) (by decide)) (by decide) (rwa_cons (mkb_lit [34, 1, 2, 3, 4] (by unfold Bytes; decide +kernel) (by decide)) (by decide) (rwa_cons (mkb_cat (mkb_lit [35] (by unfold Bytes; decide +kernel) (by decide)) (mkb_rep (k := 8) (mkb_lit [9] (by unfold Bytes; decide +kernel) (by decide)) (by decide) (by decide)) (by decide)) (by decide) (rwa_cons (mkb_cat (mkb_lit [51] (by unfold Bytes; decide +kernel) (by decide)) (mkb_rep (k := 8) (mkb_lit [1] (by unfold Bytes; decide +kernel) (by decide)) (by decide) (by decide)) (by decide)) (by decide) (rwa_cons (mkb_cat (mkb_lit [95, 16, 15] (by unfold Bytes; decide +kernel) (by decide)) (mkb_rep (k := 15) (mkb_lit [99] (by unfold Bytes; decide +kernel) (by decide)) (by decide) (by decide)) (by decide)) (by decide) rwa_nil)))))
theorem row3 : RwA 4 (tCons (tLst (tCons (tC (.int 79)) (tCons (tC (.int 16)) (tCons (tC (.int 2)) (tCons (tC (.int 5)) (tCons (tC (.int 5)) tNil)))))) (tCons (tLst (tCons (tC (.int 95)) (tCons (tC (.int 17)) (tCons (tC (.int 0)) (tCons (tC (.int 1)) (tCons (tC (.int 98)) tNil)))))) (tCons (tLst (tCons (tC (.int 111)) (tCons (tC (.int 16)) (tCons (tC (.int 1)) (tCons (tC (.int 0)) (tCons (tC (.int 99)) tNil)))))) (tCons (tOp rCat (tOp rCat (tLst (tCons (tC (.int 79)) (tCons (tC (.int 19)) tNil))) (tOp rRep (tLst (tCons (tC (.int 0)) tNil)) (tC (.int 7)))) (tLst (tCons (tC (.int 3)) (tCons (tC (.int 1)) (tCons (tC (.int 2)) (tCons (tC (.int 3)) tNil)))))) tNil)))) := (rwa_cons (mkb_lit [79, 16, 2, 5, 5] (by unfold Bytes; decide +kernel) (by decide)) (by decide) (rwa_cons (mkb_lit [95, 17, 0, 1, 98] (by unfold Bytes; decide +kernel) (by decide)) (by decide) (rwa_cons (mkb_lit [111, 16, 1, 0, 99] (by unfold Bytes; decide +kernel) (by decide)) (by decide) (rwa_cons (mkb_cat (mkb_cat (mkb_lit [79, 19] (by unfold Bytes; decide +kernel) (by decide)) (mkb_rep (k := 7) (mkb_lit [0] (by unfold Bytes; decide +kernel) (by decide)) (by decide) (by decide)) (by decide)) (mkb_lit [3, 1, 2, 3] (by unfold Bytes; decide +kernel) (by decide)) (by decide)) (by decide) rwa_nil))))
section
variable {P : Program} {w : World} {K : PySem.W.Frag} {mg : Str → Option Value} {base : Heap} {l : Ld}
theorem scLeaf : FnScope ["_law_s", "_law_some"] ["_law_s"] (defScope sLeaf) := ⟨rfl, rfl, rfl, by decide +kernel, rfl, by decide +kernel, by decide +kernel⟩
theorem ok_leaf {f : Addr} {fd fdD : FuncData} (F : Fun K "_law_leaf" "_law_leaf" sLeaf f fd) (L : LTx mg l) (FD : Fun K "_law_digit" "_law_digit" sDig l.fDig fdD) (bD : Binds K fdD ["_law_state_here", "_law_base"] []) :
    FnOk P w K mg base CX0 2 f fd ["_law_s"] spLf := by
  have GD : FnOk P w K mg base CX0 1 l.fDig fdD ["_law_state_here", "_law_base"] spDig := ok_dig FD L
  refine F.ok scLeaf (fun vs H Q E h => ?_) (fun cdv A outer s H vs Q E hr h => ?_)
  · obtain ⟨S, rfl, _⟩ := h
    rfl
  · obtain ⟨S, rfl, hS, k⟩ := h
    have hr1 : Room 1 _ := hr
    refine ⟨_, (pss_cons (ps_set (i := 1) scLeaf.nd rfl (.inl rfl) (pe_lst (pa_cons (pe_lst (pa_cons pe_int pa_nil)) (pa_cons (pe_lst (pa_cons pe_int pa_nil)) (pa_cons (pe_lst (pa_cons pe_int pa_nil)) (pa_cons (pe_lst (pa_cons pe_int (pa_cons pe_int pa_nil))) (pa_cons (pe_lst (pa_cons pe_int (pa_cons pe_int (pa_cons pe_int pa_nil)))) (pa_cons (pe_lst (pa_cons pe_int (pa_cons pe_int (pa_cons pe_int (pa_cons pe_int (pa_cons pe_int pa_nil)))))) (pa_cons (pe_op op_cat (pe_lst (pa_cons pe_int pa_nil)) (pe_op op_rep (pe_lst (pa_cons pe_int pa_nil)) pe_int)) (pa_cons (pe_op op_cat (pe_op op_cat (pe_lst (pa_cons pe_int pa_nil)) (pe_op op_rep (pe_lst (pa_cons pe_int pa_nil)) pe_int)) (pe_op op_rep (pe_lst (pa_cons pe_int pa_nil)) pe_int)) pa_nil)))))))))) (pss_cons (ps_set (i := 1) scLeaf.nd rfl (.inl rfl) (pe_op op_cat (pv 1) (pe_lst (pa_cons (pe_lst (pa_cons pe_int pa_nil)) (pa_cons (pe_lst (pa_cons pe_int (pa_cons pe_int (pa_cons pe_int pa_nil)))) (pa_cons (pe_lst (pa_cons pe_int (pa_cons pe_int pa_nil))) (pa_cons (pe_lst (pa_cons pe_int (pa_cons pe_int (pa_cons pe_int pa_nil)))) (pa_cons (pe_lst (pa_cons pe_int pa_nil)) (pa_cons (pe_lst (pa_cons pe_int (pa_cons pe_int (pa_cons pe_int pa_nil)))) (pa_cons (pe_lst (pa_cons pe_int (pa_cons pe_int (pa_cons pe_int (pa_cons pe_int (pa_cons pe_int pa_nil)))))) (pa_cons (pe_lst (pa_cons pe_int (pa_cons pe_int pa_nil))) (pa_cons (pe_lst (pa_cons pe_int (pa_cons pe_int pa_nil))) pa_nil)))))))))))) (pss_cons (ps_set (i := 1) scLeaf.nd rfl (.inl rfl) (pe_op op_cat (pv 1) (pe_lst (pa_cons (pe_lst (pa_cons pe_int (pa_cons pe_int (pa_cons pe_int (pa_cons pe_int pa_nil))))) (pa_cons (pe_lst (pa_cons pe_int (pa_cons pe_int (pa_cons pe_int (pa_cons pe_int (pa_cons pe_int pa_nil)))))) (pa_cons (pe_op op_cat (pe_lst (pa_cons pe_int pa_nil)) (pe_op op_rep (pe_lst (pa_cons pe_int pa_nil)) pe_int)) (pa_cons (pe_op op_cat (pe_lst (pa_cons pe_int pa_nil)) (pe_op op_rep (pe_lst (pa_cons pe_int pa_nil)) pe_int)) (pa_cons (pe_op op_cat (pe_lst (pa_cons pe_int (pa_cons pe_int (pa_cons pe_int pa_nil)))) (pe_op op_rep (pe_lst (pa_cons pe_int pa_nil)) pe_int)) pa_nil)))))))) (pss_cons (ps_set (i := 1) scLeaf.nd rfl (.inl rfl) (pe_op op_cat (pv 1) (pe_lst (pa_cons (pe_lst (pa_cons pe_int (pa_cons pe_int (pa_cons pe_int (pa_cons pe_int (pa_cons pe_int pa_nil)))))) (pa_cons (pe_lst (pa_cons pe_int (pa_cons pe_int (pa_cons pe_int (pa_cons pe_int (pa_cons pe_int pa_nil)))))) (pa_cons (pe_lst (pa_cons pe_int (pa_cons pe_int (pa_cons pe_int (pa_cons pe_int (pa_cons pe_int pa_nil)))))) (pa_cons (pe_op op_cat (pe_op op_cat (pe_lst (pa_cons pe_int (pa_cons pe_int pa_nil))) (pe_op op_rep (pe_lst (pa_cons pe_int pa_nil)) pe_int)) (pe_lst (pa_cons pe_int (pa_cons pe_int (pa_cons pe_int (pa_cons pe_int pa_nil)))))) pa_nil))))))) (pss_one (ps_ret (pe_ix ix_list (pv 1) (pe_call GD hr1 rfl L.gDig FD.kp bD .nil pass0 (pa_cons (pv 0) (pa_cons (pe_callB call_len_seq (by rfl) L.bLen PySem.boot_len (pa_cons (pv 1) pa_nil)) pa_nil))) (fun _ _ => rfl)))))))), ?_⟩
    refine rd_asg (rows_lst (S := S) (n := 8) ?r0 (by decide) hS.ne fun p0 H0 r0 f0 s0 e0 l0 b0 => ?_)
    case r0 => exact row0
    have hS0 := src_same hS s0
    refine rd_asg (rd_var rfl (rows_lst (S := S) (n := 9) ?r1 (by decide) hS0.ne fun p1 H1 r1 f1 s1 e1 l1 b1 => ?_))
    case r1 => exact row1
    refine ⟨p0, p1, _, _, rfl, rfl, s1 _ _ e0, e1, by rw [l0, l1]; decide, fun q1 g1 => ?_⟩
    have s1' : Same H0 (upd H1 q1 (.lst (r0 ++ r1))) := same_new s1 g1
    have hS1 := src_same hS0 s1'
    have c1 : ∀ r ∈ r0 ++ r1, BRef S (upd H1 q1 (.lst (r0 ++ r1))) r := fun r h => by
      rcases List.mem_append.mp h with h | h
      · exact (b0 r h).same s1'
      · exact (b1 r h).same (same_new (Same.refl H1) g1)
    have d1 : (r0 ++ r1).length = 17 := by rw [List.length_append, l0, l1]
    have u1 : upd H1 q1 (.lst (r0 ++ r1)) q1 = some (.lst (r0 ++ r1)) := upd_same
    have t1 := s0.trans s1'
    revert hS1 c1 d1 u1 t1
    generalize upd H1 q1 (.lst (r0 ++ r1)) = J1
    generalize r0 ++ r1 = R1
    intro hS1 c1 d1 u1 t1
    refine rd_asg (rd_var rfl (rows_lst (S := S) (n := 5) ?r2 (by decide) hS1.ne fun p2 H2 r2 f2 s2 e2 l2 b2 => ?_))
    case r2 => exact row2
    refine ⟨q1, p2, _, _, rfl, rfl, s2 _ _ u1, e2, by rw [d1, l2]; decide, fun q2 g2 => ?_⟩
    have s2' : Same J1 (upd H2 q2 (.lst (R1 ++ r2))) := same_new s2 g2
    have hS2 := src_same hS1 s2'
    have c2 : ∀ r ∈ R1 ++ r2, BRef S (upd H2 q2 (.lst (R1 ++ r2))) r := fun r h => by
      rcases List.mem_append.mp h with h | h
      · exact (c1 r h).same s2'
      · exact (b2 r h).same (same_new (Same.refl H2) g2)
    have d2 : (R1 ++ r2).length = 22 := by rw [List.length_append, d1, l2]
    have u2 : upd H2 q2 (.lst (R1 ++ r2)) q2 = some (.lst (R1 ++ r2)) := upd_same
    have t2 := t1.trans s2'
    revert hS2 c2 d2 u2 t2
    generalize upd H2 q2 (.lst (R1 ++ r2)) = J2
    generalize R1 ++ r2 = R2
    intro hS2 c2 d2 u2 t2
    refine rd_asg (rd_var rfl (rows_lst (S := S) (n := 4) ?r3 (by decide) hS2.ne fun p3 H3 r3 f3 s3 e3 l3 b3 => ?_))
    case r3 => exact row3
    refine ⟨q2, p3, _, _, rfl, rfl, s3 _ _ u2, e3, by rw [d2, l3]; decide, fun q3 g3 => ?_⟩
    have s3' : Same J2 (upd H3 q3 (.lst (R2 ++ r3))) := same_new s3 g3
    have hS3 := src_same hS2 s3'
    have c3 : ∀ r ∈ R2 ++ r3, BRef S (upd H3 q3 (.lst (R2 ++ r3))) r := fun r h => by
      rcases List.mem_append.mp h with h | h
      · exact (c2 r h).same s3'
      · exact (b3 r h).same (same_new (Same.refl H3) g3)
    have d3 : (R2 ++ r3).length = 26 := by rw [List.length_append, d2, l3]
    have u3 : upd H3 q3 (.lst (R2 ++ r3)) q3 = some (.lst (R2 ++ r3)) := upd_same
    have t3 := t2.trans s3'
    have nq : q3 ≠ S := src_ne (src_same hS2 s3) g3
    revert hS3 c3 d3 u3 t3
    generalize upd H3 q3 (.lst (R2 ++ r3)) = J3
    generalize R2 ++ r3 = R3
    intro hS3 c3 d3 u3 t3
    refine ⟨_, rfl, _, rfl, _, rfl, q3, R3, rfl, .inl (.inl (.inl u3)), S, _, rfl, hS3, by rw [d3]; decide, by rw [d3]; decide, fun r J4 hr4 hS4 hB4 _ => ?_⟩
    rw [d3] at hr4
    have hrl : r < R3.length := by rw [d3]; omega
    refine ⟨q3, R3, _, R3[r], rfl, rfl, .inl (.inl (hB4 _ _ u3 nq)), atI_nat (List.getElem?_eq_getElem hrl), ?_⟩
    exact k _ J4 (fun b o e n => hB4 _ _ (t3 _ _ e) n) hS4 ((c3 _ (List.getElem_mem hrl)).but hB4)
end
end G58

set_option Elab.async false
set_option linter.all false
set_option maxRecDepth 100000
set_option maxHeartbeats 4000000
/-! k19: bodies. -/
namespace G58
open PySem PySem.Spec PyProof.Rows L2
theorem mem_cut {xs : List V} {a b : Option Int} {x : V} (h : x ∈ cutV xs a b) : x ∈ xs := by
  unfold cutV at h
  exact List.mem_of_mem_drop (List.mem_of_mem_take h)
def spBod : Sp := fun vs H Q _ => ∃ (S : Addr) (n : Nat), vs = [.ref S, .int (n : Nat)] ∧ SrcAt H S ∧ n ≤ 3 ∧
  ∀ (p : Addr) (H' : Hp) (rs : List V), H p = none → But S H H' → SrcAt H' S → H' p = some (.lst rs) → 3 ≤ rs.length → rs.length ≤ 10 → (∀ r ∈ rs, BRef S H' r) → Q (.ref p) H'
theorem bref_ne {S F : Addr} {H : Hp} {rs : List V} {ns : List Nat} {p : Addr} (hF : H F = some (.lst rs)) (hl : 3 ≤ rs.length) (hr : ∀ r ∈ rs, BRef S H r) (hp : H p = some (.lst (vInts ns))) : p ≠ F := fun e => by
  rw [e, hF] at hp
  have z : rs = vInts ns := HO.lst.inj (Option.some.inj hp)
  cases rs with
  | nil => exact absurd hl (by decide)
  | cons r t =>
    obtain ⟨q, _, e1, _⟩ := hr r (List.mem_cons_self ..)
    cases ns with
    | nil => cases z
    | cons n m =>
      have z2 := (List.cons.inj z).1
      rw [e1] at z2
      cases z2
theorem bod_put {S F : Addr} {H0 H1 : Hp} {r : V} {rs : List V} {i : Nat} (hS : SrcAt H1 S) (hB : But S H0 H1) (hf : H0 F = none) (hF : H1 F = some (.lst rs)) (hne : F ≠ S) (hl : rs.length = 3 + i) (hr : ∀ r ∈ rs, BRef S H1 r) (hb : BRef S H1 r) :
    SrcAt (upd H1 F (.lst (rs ++ [r]))) S ∧ But S H0 (upd H1 F (.lst (rs ++ [r]))) ∧ (upd H1 F (.lst (rs ++ [r]))) F = some (.lst (rs ++ [r])) ∧ (rs ++ [r]).length = 3 + (i + 1) ∧ ∀ x ∈ rs ++ [r], BRef S (upd H1 F (.lst (rs ++ [r]))) x := by
  have up : ∀ {x : V}, BRef S H1 x → BRef S (upd H1 F (.lst (rs ++ [r]))) x := fun {x} h => by
    obtain ⟨p, ns, e, n, hp, q⟩ := h
    exact ⟨p, ns, e, n, by rw [upd_ne (bref_ne hF (by omega) hr hp)]; exact hp, q⟩
  refine ⟨src_put hS hne, fun b o e n => ?_, upd_same, by rw [List.length_append, hl]; rfl, fun x hx => ?_⟩
  · rw [upd_ne (ne_of_none e hf)]
    exact hB b o e n
  · rcases List.mem_append.mp hx with h | h
    · exact up (hr x h)
    · rw [List.mem_singleton.mp h]
      exact up hb
section
variable {P : Program} {w : World} {K : PySem.W.Frag} {mg : Str → Option Value} {base : Heap} {l : Ld}
theorem scBod : FnScope ["_law_s", "_law_width", "_law_found", "_law_turn", "_law_way", "_law_count", "_law_body", "_law_k", "_law_key"] ["_law_s", "_law_width"] (defScope sBod) := ⟨rfl, rfl, rfl, by decide +kernel, rfl, by decide +kernel, by decide +kernel⟩
theorem ok_bod {f : Addr} {fd fdD fdO fdSh fdLf : FuncData} (F : Fun K "_law_bodies" "_law_bodies" sBod f fd) (L : LTx mg l) (FD : Fun K "_law_digit" "_law_digit" sDig l.fDig fdD) (bD : Binds K fdD ["_law_state_here", "_law_base"] [])
    (FO : Fun K "_law_octets" "_law_octets" sOct l.fOct fdO) (bO : Binds K fdO ["_law_number", "_law_count"] []) (FSh : Fun K "_law_shuffled" "_law_shuffled" sShu l.fShu fdSh) (bSh : Binds K fdSh ["_law_s", "_law_items"] [])
    (FLf : Fun K "_law_leaf" "_law_leaf" sLeaf l.fLeaf fdLf) (bLf : Binds K fdLf ["_law_s"] []) :
    FnOk P w K mg base CX0 3 f fd ["_law_s", "_law_width"] spBod := by
  have GD : FnOk P w K mg base CX0 1 l.fDig fdD ["_law_state_here", "_law_base"] spDig := ok_dig FD L
  have GO : FnOk P w K mg base CX0 1 l.fOct fdO ["_law_number", "_law_count"] spOct := ok_oct FO L
  have GSh : FnOk P w K mg base CX0 2 l.fShu fdSh ["_law_s", "_law_items"] spShu := ok_shu FSh L FD bD
  have GLf : FnOk P w K mg base CX0 2 l.fLeaf fdLf ["_law_s"] spLf := ok_leaf FLf L FD bD
  refine F.ok scBod (fun vs H Q E h => ?_) (fun cdv A outer s H vs Q E hr h => ?_)
  · obtain ⟨S, n, rfl, _⟩ := h
    rfl
  · obtain ⟨S, n, rfl, hS, hn, k⟩ := h
    have hr2 : Room 2 _ := hr
    have hr1 : Room 1 _ := hr.mono (by decide)
    refine ⟨_, (pss_cons (ps_set (i := 2) scBod.nd rfl (.inl rfl) (pe_lst (pa_cons (pe_lst (pa_cons pe_int (pa_cons pe_int pa_nil))) (pa_cons (pe_lst (pa_cons pe_int (pa_cons pe_int (pa_cons pe_int pa_nil)))) (pa_cons (pe_lst (pa_cons pe_int (pa_cons pe_int (pa_cons pe_int pa_nil)))) pa_nil))))) (pss_cons (ps_for PassesOwn.never rfl (pi_range1 (by rfl) L.bRange (pa_cons (pe_op op_add pe_int (pe_call GD hr1 rfl L.gDig FD.kp bD .nil pass0 (pa_cons (pv 0) (pa_cons pe_int pa_nil)))) pa_nil)) (pg_name (i := 3) scBod.nd rfl (.inl rfl)) (pss_cons (ps_set (i := 4) scBod.nd rfl (.inl rfl) (pe_call GD hr1 rfl L.gDig FD.kp bD .nil pass0 (pa_cons (pv 0) (pa_cons pe_int pa_nil)))) (pss_one (ps_if (pt_cmpR op_lt (pv 4) pe_int (nomark _)) (pss_one (ps_expr (pe_bm PySem.F.plainAttrs_list PySem.F.slot_list_append PySem.F.type_list_append mt_append (pv 2) (pa_cons (pe_call GLf hr2 rfl L.gLeaf FLf.kp bLf .nil pass0 (pa_cons (pv 0) pa_nil)) pa_nil)))) (pss_one (ps_if (pt_cmpR op_eq (pv 4) pe_int (nomark _)) (pss_cons (ps_set (i := 5) scBod.nd rfl (.inl rfl) (pe_call GD hr1 rfl L.gDig FD.kp bD .nil pass0 (pa_cons (pv 0) (pa_cons pe_int pa_nil)))) (pss_cons (ps_set (i := 6) scBod.nd rfl (.inl rfl) (pe_lst (pa_cons (pe_op op_add pe_int (pv 5)) pa_nil))) (pss_cons (ps_for PassesOwn.never rfl (pi_range1 (by rfl) L.bRange (pa_cons (pv 5) pa_nil)) (pg_name (i := 7) scBod.nd rfl (.inl rfl)) (pss_one (ps_set (i := 6) scBod.nd rfl (.inl rfl) (pe_op op_cat (pv 6) (pe_call GO hr1 rfl L.gOct FO.kp bO .nil pass0 (pa_cons (pe_call GD hr1 rfl L.gDig FD.kp bD .nil pass0 (pa_cons (pv 0) (pa_cons (pe_callB call_len_seq (by rfl) L.bLen PySem.boot_len (pa_cons (pv 2) pa_nil)) pa_nil))) (pa_cons (pv 1) pa_nil))))))) (pss_one (ps_expr (pe_bm PySem.F.plainAttrs_list PySem.F.slot_list_append PySem.F.type_list_append mt_append (pv 2) (pa_cons (pv 6) pa_nil))))))) (pss_cons (ps_set (i := 5) scBod.nd rfl (.inl rfl) (pe_call GD hr1 rfl L.gDig FD.kp bD .nil pass0 (pa_cons (pv 0) (pa_cons pe_int pa_nil)))) (pss_cons (ps_set (i := 6) scBod.nd rfl (.inl rfl) (pe_lst (pa_cons (pe_op op_add pe_int (pv 5)) pa_nil))) (pss_cons (ps_for PassesOwn.never rfl (pi_list (pe_slice sl_list (pe_call GSh hr2 rfl L.gShu FSh.kp bSh .nil pass0 (pa_cons (pv 0) (pa_cons (pe_lst (pa_cons pe_int (pa_cons pe_int (pa_cons pe_int pa_nil)))) pa_nil))) po_none (po_some (pv 5)))) (pg_name (i := 8) scBod.nd rfl (.inl rfl)) (pss_one (ps_set (i := 6) scBod.nd rfl (.inl rfl) (pe_op op_cat (pv 6) (pe_call GO hr1 rfl L.gOct FO.kp bO .nil pass0 (pa_cons (pv 8) (pa_cons (pv 1) pa_nil))))))) (pss_cons (ps_for PassesOwn.never rfl (pi_range1 (by rfl) L.bRange (pa_cons (pv 5) pa_nil)) (pg_name (i := 7) scBod.nd rfl (.inl rfl)) (pss_one (ps_set (i := 6) scBod.nd rfl (.inl rfl) (pe_op op_cat (pv 6) (pe_call GO hr1 rfl L.gOct FO.kp bO .nil pass0 (pa_cons (pe_call GD hr1 rfl L.gDig FD.kp bD .nil pass0 (pa_cons (pv 0) (pa_cons (pe_callB call_len_seq (by rfl) L.bLen PySem.boot_len (pa_cons (pv 2) pa_nil)) pa_nil))) (pa_cons (pv 1) pa_nil))))))) (pss_one (ps_expr (pe_bm PySem.F.plainAttrs_list PySem.F.slot_list_append PySem.F.type_list_append mt_append (pv 2) (pa_cons (pv 6) pa_nil)))))))))))))) (pss_one (ps_ret (pv 2))))), ?_⟩
    refine rd_asg (rows_lst (S := S) (n := 3) ?rw (by decide) hS.ne fun F1 H1 rs1 fF s1 eF l1 b1 => ?_)
    case rw => exact rwa_cons (mkb_lit [81, 97] (by unfold Bytes; decide +kernel) (by decide)) (by decide) (rwa_cons (mkb_lit [82, 98, 99] (by unfold Bytes; decide +kernel) (by decide)) (by decide) (rwa_cons (mkb_lit [97, 0, 100] (by unfold Bytes; decide +kernel) (by decide)) (by decide) rwa_nil))
    have hS1 := src_same hS s1
    have nF : F1 ≠ S := src_ne hS fF
    refine ⟨_, rfl, S, _, rfl, hS1, by decide, by decide, fun m H2 hm hS2 hB2 _ => ?_⟩
    refine ⟨_, _, rfl, rfl, (1 + (m : Int)), rfl, by omega, by omega, for_it walk_range (fun i st H3 => ∃ (u3 u4 u5 u6 u7 u8 : Option V) (rs : List V), st = [some (.ref S), some (.int (n : Nat)), some (.ref F1), u3, u4, u5, u6, u7, u8] ∧ SrcAt H3 S ∧ But S H H3 ∧ H3 F1 = some (.lst rs) ∧ rs.length = 3 + i ∧ ∀ r ∈ rs, BRef S H3 r)
      ⟨_, _, _, _, _, _, rs1, rfl, hS2, fun b o e q => hB2 b o (s1 _ _ e) q, hB2 _ _ eF nF, l1, fun r h => (b1 r h).but hB2⟩ (fun _ _ _ _ _ => True.intro) ?_ ?_⟩
    · rintro i x st H3 _ hi ⟨u3, u4, u5, u6, u7, u8, rs, rfl, hS3, hB3, hF3, hl3, hr3⟩ ⟨rfl, rfl⟩
      have hi7 : i < 7 := by
        have z : i < (1 + (m : Int)).toNat := hi
        omega
      refine ⟨_, rfl, S, _, rfl, hS3, by decide, by decide, fun way H4 hw hS4 hB4 _ => ?_⟩
      have hF4 := hB4 _ _ hF3 nF
      have hr4 : ∀ r ∈ rs, BRef S H4 r := fun r h => (hr3 r h).but hB4
      have hB04 := hB3.trans hB4
      refine ⟨_, rfl, _, _, rfl, rfl, _, rfl, ?_⟩
      refine ite2 (fun _ => ?_) (fun _ => ?_)
      · refine ⟨_, rfl, .inl ⟨rfl, _, .inl (.inl hF4)⟩, _, rfl, S, rfl, hS4, fun r H5 hB5 hS5 hb5 => ?_⟩
        obtain ⟨a1, a2, a3, a4, a5⟩ := bod_put hS5 (hB04.trans hB5) fF (hB5 _ _ hF4 nF) nF hl3 (fun r h => (hr4 r h).but hB5) hb5
        refine ⟨F1, _, _, rfl, rfl, hB5 _ _ hF4 nF, ?_, _, _, _, _, _, _, _, rfl, a1, a2, a3, a4, a5⟩
        rw [hl3]
        exact Nat.lt_of_le_of_lt (by omega : _ ≤ 10) (by decide)
      refine ⟨_, rfl, rfl, _, rfl, ?_⟩
      refine ite2 (fun _ => ?_) (fun _ => ?_)
      · refine ⟨_, rfl, S, _, rfl, hS4, by decide, by decide, fun c H5 hc hS5 hB5 _ => ?_⟩
        refine ⟨_, rfl, _, _, rfl, rfl, by show 1 ≤ sizeLine; decide, fun p0 hp0 => ?_⟩
        have sp := same_new (o := .lst [.int (160 + (c : Int))]) (Same.refl H5) hp0
        have eB : (upd H5 p0 (.lst [.int (160 + (c : Int))])) p0 = some (.lst (vInts [160 + c])) := upd_same
        have hS6 := src_same hS5 sp
        have hB6 : But S H4 (upd H5 p0 (.lst [.int (160 + (c : Int))])) := hB5.same sp
        have np0 : p0 ≠ S := src_ne hS5 hp0
        revert eB hS6 hB6
        generalize upd H5 p0 (.lst [.int (160 + (c : Int))]) = H6
        intro eB hS6 hB6
        have hc' : c < 5 := by omega
        refine ⟨_, rfl, (c : Int), rfl, by omega, by omega, for_it walk_range (fun j st H7 => ∃ (v7 : Option V) (p : Addr) (ns : List Nat), st = [some (.ref S), some (.int (n : Nat)), some (.ref F1), some (.int (0 + (i : Nat))), some (.int (way : Nat)), some (.int (c : Nat)), some (.ref p), v7, u8] ∧ SrcAt H7 S ∧ But S H4 H7 ∧ p ≠ S ∧ H7 p = some (.lst (vInts ns)) ∧ Bytes ns ∧ ns.length = 1 + j * n)
          ⟨_, p0, [160 + c], rfl, hS6, hB6, np0, eB, Bytes.one (by omega), by rw [Nat.zero_mul]; rfl⟩ (fun _ _ _ _ _ => True.intro) ?_ ?_⟩
        · rintro j x st H7 _ hj ⟨v7, p, ns, rfl, hS7, hB7, np, hp7, hb7, hl7⟩ ⟨rfl, rfl⟩
          have hj5 : j < 5 := by
            have z : j < (c : Int).toNat := hj
            omega
          have hjn : j * n ≤ 4 * 3 := Nat.mul_le_mul (by omega) hn
          refine ⟨_, rfl, _, rfl, _, rfl, F1, rs, rfl, .inl (.inl (.inl (hB7 _ _ hF4 nF))), S, _, rfl, hS7, by omega, by omega, fun r H8 hr8 hS8 hB8 _ => ?_⟩
          refine ⟨_, rfl, (r : Nat), n, rfl, by omega, fun q H9 ms hq s9 e9 b9 l9 => ?_⟩
          refine ⟨p, q, _, _, rfl, rfl, s9 _ _ (hB8 _ _ hp7 np), e9, ?_, fun d hd => ?_⟩
          · rw [List.length_map, List.length_map, hl7, l9]
            exact Nat.le_trans (by omega : _ ≤ 50) (by decide)
          · have sd := same_new (o := .lst (vInts ns ++ vInts ms)) s9 hd
            refine ⟨_, d, ns ++ ms, rfl, src_same hS8 sd, (hB7.trans hB8).same sd, src_ne (src_same hS8 s9) hd, by rw [upd_same, vInts_app], hb7.app b9, ?_⟩
            rw [List.length_append, hl7, l9, Nat.succ_mul]
            omega
        · rintro st H7 ⟨v7, p, ns, rfl, hS7, hB7, np, hp7, hb7, hl7⟩
          have hcn : (c : Int).toNat * n ≤ 4 * 3 := Nat.mul_le_mul (by omega) hn
          have hl50 : ns.length ≤ 50 := by
            have z : ns.length = 1 + (c : Int).toNat * n := hl7
            omega
          have hF7 := hB7 _ _ hF4 nF
          obtain ⟨a1, a2, a3, a4, a5⟩ := bod_put hS7 (hB04.trans hB7) fF hF7 nF hl3 (fun r h => (hr4 r h).but hB7) ⟨p, ns, rfl, np, hp7, hb7, hl50⟩
          refine ⟨_, rfl, .inl ⟨rfl, _, .inl (.inl hF7)⟩, _, rfl, F1, _, _, rfl, rfl, hF7, ?_, _, _, _, _, _, _, _, rfl, a1, a2, a3, a4, a5⟩
          rw [hl3]
          exact Nat.lt_of_le_of_lt (by omega : _ ≤ 10) (by decide)
      · refine ⟨_, rfl, S, _, rfl, hS4, by decide, by decide, fun c H5 hc hS5 hB5 _ => ?_⟩
        refine ⟨_, rfl, _, _, rfl, rfl, by show 1 ≤ sizeLine; decide, fun p0 hp0 => ?_⟩
        have sp := same_new (o := .lst [.int (208 + (c : Int))]) (Same.refl H5) hp0
        have eB : (upd H5 p0 (.lst [.int (208 + (c : Int))])) p0 = some (.lst (vInts [208 + c])) := upd_same
        have hS6 := src_same hS5 sp
        have hB6 : But S H4 (upd H5 p0 (.lst [.int (208 + (c : Int))])) := hB5.same sp
        have np0 : p0 ≠ S := src_ne hS5 hp0
        revert eB hS6 hB6
        generalize upd H5 p0 (.lst [.int (208 + (c : Int))]) = H6
        intro eB hS6 hB6
        have hc' : c < 4 := by omega
        refine ⟨_, rfl, by show 3 ≤ sizeLine; decide, fun q0 hq0 => ?_⟩
        have sq := same_new (o := .lst [.int 0, .int 1, .int 2]) (Same.refl H6) hq0
        refine ⟨S, q0, [0, 1, 2], rfl, src_same hS6 sq, upd_same, src_ne hS6 hq0, by decide, fun y0 H7 ys hy0 hB7 hS7 eY hys lys => ?_⟩
        have hB67 : But S H6 H7 := fun b o e q => hB7 b o (sq _ _ e) q
        refine ⟨_, rfl, (c : Int), rfl, y0, _, rfl, .inl (.inl eY), fun z0 hz0 => ?_⟩
        have sz := same_new (o := .lst (cutV (vInts ys) none (some (c : Int)))) (Same.refl H7) hz0
        have nz0 : z0 ≠ S := src_ne hS7 hz0
        have lcut : (cutV (vInts ys) none (some (c : Int))).length ≤ 3 := by
          refine Nat.le_trans (cutV_length ..) ?_
          rw [List.length_map, lys]
          decide
        refine ⟨z0, rfl, ⟨_, .inl (.inl upd_same)⟩, for_it (walk_list (K := K) (a := z0) (xs := cutV (vInts ys) none (some (c : Int)))) (fun j st H8 => ∃ (u8 : Option V) (p : Addr) (ns : List Nat), st = [some (.ref S), some (.int (n : Nat)), some (.ref F1), some (.int (0 + (i : Nat))), some (.int (way : Nat)), some (.int (c : Nat)), some (.ref p), u7, u8] ∧ SrcAt H8 S ∧ But S H4 H8 ∧ H8 z0 = some (.lst (cutV (vInts ys) none (some (c : Int)))) ∧ p ≠ S ∧ H8 p = some (.lst (vInts ns)) ∧ Bytes ns ∧ ns.length = 1 + j * n)
          ⟨_, p0, [208 + c], rfl, src_same hS7 sz, (hB6.trans hB67).same sz, upd_same, np0, sz _ _ (hB67 _ _ eB np0), Bytes.one (by omega), by rw [Nat.zero_mul]; rfl⟩ (fun j st H8 _ q => by
            obtain ⟨_, _, _, _, _, _, q, _⟩ := q
            exact .inl (.inl q)) ?_ ?_⟩
        · rintro j x st H8 _ hj ⟨v8, p, ns, rfl, hS8, hB8, hz8, np, hp8, hb8, hl8⟩ ⟨rfl, hx⟩
          obtain ⟨y, hy, rfl⟩ := List.mem_map.mp (mem_cut (List.mem_of_getElem? hx))
          have hj3 : j < 3 := Nat.lt_of_lt_of_le hj lcut
          have hjn : j * n ≤ 3 * 3 := Nat.mul_le_mul (by omega) hn
          refine ⟨_, rfl, _, rfl, _, rfl, (y : Nat), n, rfl, by omega, fun q H9 ms hq s9 e9 b9 l9 => ?_⟩
          refine ⟨p, q, _, _, rfl, rfl, s9 _ _ hp8, e9, ?_, fun d hd => ?_⟩
          · rw [List.length_map, List.length_map, hl8, l9]
            exact Nat.le_trans (by omega : _ ≤ 50) (by decide)
          · have sd := same_new (o := .lst (vInts ns ++ vInts ms)) s9 hd
            refine ⟨_, d, ns ++ ms, rfl, src_same hS8 sd, hB8.same sd, sd _ _ hz8, src_ne (src_same hS8 s9) hd, by rw [upd_same, vInts_app], hb8.app b9, ?_⟩
            rw [List.length_append, hl8, l9, Nat.succ_mul]
            omega
        · rintro st H8 ⟨v8, p1, ns1, rfl, hS8, hB8, hz8, np1, hp8, hb8, hl8⟩
          have hln : (cutV (vInts ys) none (some (c : Int))).length * n ≤ 3 * 3 := Nat.mul_le_mul lcut hn
          have hl8' : ns1.length ≤ 10 := by
            have z : ns1.length = 1 + (cutV (vInts ys) none (some (c : Int))).length * n := hl8
            omega
          refine ⟨_, rfl, (c : Int), rfl, by omega, by omega, for_it walk_range (fun j st H7 => ∃ (v7 : Option V) (p : Addr) (ns : List Nat), st = [some (.ref S), some (.int (n : Nat)), some (.ref F1), some (.int (0 + (i : Nat))), some (.int (way : Nat)), some (.int (c : Nat)), some (.ref p), v7, v8] ∧ SrcAt H7 S ∧ But S H4 H7 ∧ p ≠ S ∧ H7 p = some (.lst (vInts ns)) ∧ Bytes ns ∧ ns.length = ns1.length + j * n)
            ⟨_, p1, ns1, rfl, hS8, hB8, np1, hp8, hb8, by rw [Nat.zero_mul]; rfl⟩ (fun _ _ _ _ _ => True.intro) ?_ ?_⟩
          · rintro j x st H7 _ hj ⟨v7, p, ns, rfl, hS7, hB7, np, hp7, hb7, hl7⟩ ⟨rfl, rfl⟩
            have hj5 : j < 5 := by
              have z : j < (c : Int).toNat := hj
              omega
            have hjn : j * n ≤ 4 * 3 := Nat.mul_le_mul (by omega) hn
            refine ⟨_, rfl, _, rfl, _, rfl, F1, rs, rfl, .inl (.inl (.inl (hB7 _ _ hF4 nF))), S, _, rfl, hS7, by omega, by omega, fun r H8 hr8 hS8 hB8 _ => ?_⟩
            refine ⟨_, rfl, (r : Nat), n, rfl, by omega, fun q H9 ms hq s9 e9 b9 l9 => ?_⟩
            refine ⟨p, q, _, _, rfl, rfl, s9 _ _ (hB8 _ _ hp7 np), e9, ?_, fun d hd => ?_⟩
            · rw [List.length_map, List.length_map, hl7, l9]
              exact Nat.le_trans (by omega : _ ≤ 50) (by decide)
            · have sd := same_new (o := .lst (vInts ns ++ vInts ms)) s9 hd
              refine ⟨_, d, ns ++ ms, rfl, src_same hS8 sd, (hB7.trans hB8).same sd, src_ne (src_same hS8 s9) hd, by rw [upd_same, vInts_app], hb7.app b9, ?_⟩
              rw [List.length_append, hl7, l9, Nat.succ_mul]
              omega
          · rintro st H7 ⟨v7, p, ns, rfl, hS7, hB7, np, hp7, hb7, hl7⟩
            have hcn : (c : Int).toNat * n ≤ 4 * 3 := Nat.mul_le_mul (by omega) hn
            have hl50 : ns.length ≤ 50 := by
              have z : ns.length = ns1.length + (c : Int).toNat * n := hl7
              omega
            have hF7 := hB7 _ _ hF4 nF
            obtain ⟨a1, a2, a3, a4, a5⟩ := bod_put hS7 (hB04.trans hB7) fF hF7 nF hl3 (fun r h => (hr4 r h).but hB7) ⟨p, ns, rfl, np, hp7, hb7, hl50⟩
            refine ⟨_, rfl, .inl ⟨rfl, _, .inl (.inl hF7)⟩, _, rfl, F1, _, _, rfl, rfl, hF7, ?_, _, _, _, _, _, _, _, rfl, a1, a2, a3, a4, a5⟩
            rw [hl3]
            exact Nat.lt_of_le_of_lt (by omega : _ ≤ 10) (by decide)
    · rintro st H3 ⟨u3, u4, u5, u6, u7, u8, rs, rfl, hS3, hB3, hF3, hl3, hr3⟩
      have hl : rs.length = 3 + (1 + (m : Int)).toNat := hl3
      exact ⟨_, rfl, k F1 H3 rs fF hB3 hS3 hF3 (by omega) (by omega) hr3⟩
end
end G58

set_option Elab.async false
set_option linter.all false
set_option maxRecDepth 100000
set_option maxHeartbeats 4000000
/-! k19: files assembled. -/
namespace G58
open PySem PySem.Spec PyProof.Rows L2
def spAss : Sp := fun vs H Q _ => ∃ (S B : Addr) (n : Nat) (rs : List V), vs = [.ref S, .ref B, .int (n : Nat)] ∧ SrcAt H S ∧ H B = some (.lst rs) ∧ B ≠ S ∧ 3 ≤ rs.length ∧ rs.length ≤ 10 ∧ (∀ r ∈ rs, BRef S H r) ∧ n ≤ 3 ∧
  ∀ (t d pl : Addr) (H' : Hp) (ns : List Nat), H' t = some (.tup [.ref d, .ref pl]) → H' d = some (.lst (vInts ns)) → d ≠ S → 1 ≤ ns.length → ns.length ≤ 1000 → Bytes ns → But S H H' → SrcAt H' S → Q (.ref t) H'
/-- the data grown so far -/
structure DS (S PL : Addr) (H H1 : Hp) (p : Addr) (ns ps : List Nat) (m : Nat) : Prop where
  src : SrcAt H1 S
  but : But S H H1
  pl : H1 PL = some (.lst (vInts ps))
  nS : p ≠ S
  nP : p ≠ PL
  at_ : H1 p = some (.lst (vInts ns))
  by_ : Bytes ns
  lo : 1 ≤ ns.length
  hi : ns.length ≤ m
theorem DS.same {S PL p : Addr} {H H1 H2 : Hp} {ns ps : List Nat} {m : Nat} (d : DS S PL H H1 p ns ps m) (s : Same H1 H2) : DS S PL H H2 p ns ps m :=
  ⟨src_same d.src s, d.but.same s, s _ _ d.pl, d.nS, d.nP, s _ _ d.at_, d.by_, d.lo, d.hi⟩
theorem DS.dig {S PL p : Addr} {H H1 H2 : Hp} {ns ps : List Nat} {m : Nat} (d : DS S PL H H1 p ns ps m) (nP : PL ≠ S) (b : But S H1 H2) (h : SrcAt H2 S) : DS S PL H H2 p ns ps m :=
  ⟨h, d.but.trans b, b _ _ d.pl nP, d.nS, d.nP, b _ _ d.at_ d.nS, d.by_, d.lo, d.hi⟩
theorem DS.app {S PL p q : Addr} {H H1 : Hp} {ns ps ms : List Nat} {m k m' : Nat} (d : DS S PL H H1 p ns ps m) (hb : Bytes ms) (hk : ms.length ≤ k) (hm : m + k ≤ m') (hq : H1 q = none) :
    DS S PL H (upd H1 q (.lst (vInts ns ++ vInts ms))) q (ns ++ ms) ps m' := by
  have s : Same H1 (upd H1 q (.lst (vInts ns ++ vInts ms))) := same_new (Same.refl H1) hq
  refine ⟨src_same d.src s, d.but.same s, s _ _ d.pl, src_ne d.src hq, (ne_of_none d.pl hq).symm, by rw [upd_same, vInts_app], d.by_.app hb, ?_, ?_⟩
  · rw [List.length_append]
    have := d.lo
    omega
  · rw [List.length_append]
    have := d.hi
    omega
theorem cat_len {ns ms : List Nat} {a b : Nat} (h1 : ns.length ≤ a) (h2 : ms.length ≤ b) (h : a + b ≤ 2000) : (vInts ns).length + (vInts ms).length ≤ sizeLine := by
  rw [List.length_map, List.length_map]
  exact Nat.le_trans (by omega : _ ≤ 2000) (by decide)
theorem pick4 {r1 r2 : Nat} (h1 : (r1 : Int) < 3) (h2 : (r2 : Int) < 4) : ∃ g : Nat, g < 3 ∧ atI [.int 0, .int 0, .int 0, .int (r1 : Nat)] (r2 : Nat) = some (V.int (g : Nat)) := by
  have e : r2 = 0 ∨ r2 = 1 ∨ r2 = 2 ∨ r2 = 3 := by omega
  rcases e with rfl | rfl | rfl | rfl
  · exact ⟨0, by decide, rfl⟩
  · exact ⟨0, by decide, rfl⟩
  · exact ⟨0, by decide, rfl⟩
  · exact ⟨r1, by omega, rfl⟩
theorem size_lem (k : Bool) (r : Nat) (h : (r : Int) < 2) : ∃ c : Nat, c ≤ 3 ∧ (1 + (if k = true then 1 else 0) + (r : Int) : Int) = (c : Nat) := by
  cases k
  · exact ⟨1 + r, by omega, by show (1 + 0 + (r : Int) : Int) = _; omega⟩
  · exact ⟨2 + r, by omega, by show (1 + 1 + (r : Int) : Int) = _; omega⟩
theorem set_ints : ∀ (ps : List Nat) (j m : Nat), (vInts ps).set j (.int (m : Nat)) = vInts (ps.set j m)
  | [], _, _ => rfl
  | _ :: _, 0, _ => rfl
  | n :: l, j + 1, m => congrArg (V.int (n : Nat) :: ·) (set_ints l j m)
theorem rg_ints (n : Nat) : rgV 0 (n : Nat) = vInts (List.range n) := by
  unfold rgV
  have e : ((n : Int) - 0).toNat = n := by omega
  rw [e]
  refine List.map_congr_left fun i _ => ?_
  rw [Int.zero_add]
theorem ix_in {n y : Nat} (h : y < n) : ixN n (y : Nat) = some y := by
  unfold ixN
  rw [if_pos (by omega), if_pos (by omega)]
  rw [Int.toNat_natCast]
section
variable {P : Program} {w : World} {K : PySem.W.Frag} {mg : Str → Option Value} {base : Heap} {l : Ld}
theorem scAss : FnScope ["_law_s", "_law_bodies_here", "_law_width", "_law_data", "_law_places", "_law_number", "_law_table", "_law_size", "_law_place"] ["_law_s", "_law_bodies_here", "_law_width"] (defScope sAss) := ⟨rfl, rfl, rfl, by decide +kernel, rfl, by decide +kernel, by decide +kernel⟩
theorem ok_ass {f : Addr} {fd fdD fdO fdSh : FuncData} (F : Fun K "_law_assembled" "_law_assembled" sAss f fd) (L : LTx mg l) (FD : Fun K "_law_digit" "_law_digit" sDig l.fDig fdD) (bD : Binds K fdD ["_law_state_here", "_law_base"] [])
    (FO : Fun K "_law_octets" "_law_octets" sOct l.fOct fdO) (bO : Binds K fdO ["_law_number", "_law_count"] []) (FSh : Fun K "_law_shuffled" "_law_shuffled" sShu l.fShu fdSh) (bSh : Binds K fdSh ["_law_s", "_law_items"] []) :
    FnOk P w K mg base CX0 3 f fd ["_law_s", "_law_bodies_here", "_law_width"] spAss := by
  have GD : FnOk P w K mg base CX0 1 l.fDig fdD ["_law_state_here", "_law_base"] spDig := ok_dig FD L
  have GO : FnOk P w K mg base CX0 1 l.fOct fdO ["_law_number", "_law_count"] spOct := ok_oct FO L
  have GSh : FnOk P w K mg base CX0 2 l.fShu fdSh ["_law_s", "_law_items"] spShu := ok_shu FSh L FD bD
  refine F.ok scAss (fun vs H Q E h => ?_) (fun cdv A outer s H vs Q E hr h => ?_)
  · obtain ⟨S, B, n, rs, rfl, _⟩ := h
    rfl
  · obtain ⟨S, B, n, rs, rfl, hS, hB, nB, lr0, lr1, hrs, hn, k⟩ := h
    have hr2 : Room 2 _ := hr
    have hr1 : Room 1 _ := hr.mono (by decide)
    refine ⟨_, (pss_cons (ps_par (i := 3) (j := 4) rfl scAss.nd rfl rfl (by decide) rfl rfl (pa_cons (pe_lst (pa_cons pe_int (pa_cons pe_int (pa_cons pe_int (pa_cons pe_int (pa_cons pe_int (pa_cons pe_int (pa_cons pe_int (pa_cons pe_int pa_nil))))))))) (pa_cons (pe_op op_rep (pe_lst (pa_cons pe_int pa_nil)) (pe_callB call_len_seq (by rfl) L.bLen PySem.boot_len (pa_cons (pv 1) pa_nil))) pa_nil)) rfl) (pss_cons (ps_for PassesOwn.never rfl (pi_list (pe_call GSh hr2 rfl L.gShu FSh.kp bSh .nil pass0 (pa_cons (pv 0) (pa_cons (pe_listRg rfl (by rfl) L.bList (prg_1 (by rfl) L.bRange (pe_callB call_len_seq (by rfl) L.bLen PySem.boot_len (pa_cons (pv 1) pa_nil)))) pa_nil)))) (pg_name (i := 5) scAss.nd rfl (.inl rfl)) (pss_cons (ps_set (i := 3) scAss.nd rfl (.inl rfl) (pe_op op_cat (pv 3) (pe_op op_rep (pe_lst (pa_cons pe_int pa_nil)) (pe_ix ix_list (pe_lst (pa_cons pe_int (pa_cons pe_int (pa_cons pe_int (pa_cons (pe_call GD hr1 rfl L.gDig FD.kp bD .nil pass0 (pa_cons (pv 0) (pa_cons pe_int pa_nil))) pa_nil))))) (pe_call GD hr1 rfl L.gDig FD.kp bD .nil pass0 (pa_cons (pv 0) (pa_cons pe_int pa_nil))) (fun _ _ => rfl))))) (pss_cons (ps_asg (pe_callB call_len_seq (by rfl) L.bLen PySem.boot_len (pa_cons (pv 3) pa_nil)) (pg_sub (pv 4) (pv 5) set_list)) (pss_one (ps_set (i := 3) scAss.nd rfl (.inl rfl) (pe_op op_cat (pv 3) (pe_ix ix_list (pv 1) (pv 5) (fun _ _ => rfl)))))))) (pss_cons (ps_par (i := 6) (j := 7) rfl scAss.nd rfl rfl (by decide) rfl rfl (pa_cons (pe_callB call_len_seq (by rfl) L.bLen PySem.boot_len (pa_cons (pv 3) pa_nil)) (pa_cons (pe_op op_add (pe_op op_add pe_int (pe_callTy call_int1 (by rfl) L.bInt (by decide +kernel) (pa_cons (pe_cmpR op_gt (pe_callB call_len_seq (by rfl) L.bLen PySem.boot_len (pa_cons (pv 3) pa_nil)) pe_int (nomark _)) pa_nil))) (pe_call GD hr1 rfl L.gDig FD.kp bD .nil pass0 (pa_cons (pv 0) (pa_cons pe_int pa_nil)))) pa_nil)) rfl) (pss_cons (ps_for PassesOwn.never rfl (pi_list (pv 4)) (pg_name (i := 8) scAss.nd rfl (.inl rfl)) (pss_one (ps_set (i := 3) scAss.nd rfl (.inl rfl) (pe_op op_cat (pv 3) (pe_call GO hr1 rfl L.gOct FO.kp bO .nil pass0 (pa_cons (pv 8) (pa_cons (pv 7) pa_nil))))))) (pss_cons (ps_set (i := 3) scAss.nd rfl (.inl rfl) (pe_op op_cat (pe_op op_cat (pv 3) (pe_op op_rep (pe_lst (pa_cons pe_int pa_nil)) pe_int)) (pe_lst (pa_cons (pv 7) (pa_cons (pv 2) pa_nil))))) (pss_cons (ps_for PassesOwn.never rfl (pi_tup (pe_tup (pa_cons (pe_callB call_len_seq (by rfl) L.bLen PySem.boot_len (pa_cons (pv 1) pa_nil)) (pa_cons (pe_op op_sub (pe_callB call_len_seq (by rfl) L.bLen PySem.boot_len (pa_cons (pv 1) pa_nil)) pe_int) (pa_cons (pv 6) pa_nil))))) (pg_name (i := 5) scAss.nd rfl (.inl rfl)) (pss_one (ps_set (i := 3) scAss.nd rfl (.inl rfl) (pe_op op_cat (pv 3) (pe_call GO hr1 rfl L.gOct FO.kp bO .nil pass0 (pa_cons (pv 5) (pa_cons pe_int pa_nil))))))) (pss_one (ps_ret (pe_tup (pa_cons (pv 3) (pa_cons (pv 4) pa_nil))))))))))), ?_⟩
    refine ⟨by show 8 ≤ sizeLine; decide, fun p0 hp0 => ⟨by show 1 ≤ sizeLine; decide, fun z0 hz0 => ?_⟩⟩
    have s0 := same_new (o := .lst [.int 98, .int 112, .int 108, .int 105, .int 115, .int 116, .int 48, .int 48]) (Same.refl H) hp0
    have sz := same_new (o := .lst [.int 0]) s0 hz0
    refine ⟨_, rfl, B, rs, rfl, .inl (.inl (.inl (sz _ _ hB))), z0, (rs.length : Nat), _, rfl, rfl, upd_same, by omega, by omega, ?_, fun PL hPL => ?_⟩
    · rw [Int.toNat_natCast]
      show 1 * rs.length ≤ sizeLine
      exact Nat.le_trans (by omega : _ ≤ 10) (by decide)
    have eF : (List.replicate ((rs.length : Nat) : Int).toNat [V.int 0]).flatten = vInts (List.replicate rs.length [0]).flatten := by
      rw [Int.toNat_natCast]
      exact flat_ints rs.length [0]
    rw [eF]
    have fPL : H PL = none := sz.free hPL
    have nPL : PL ≠ S := src_ne hS fPL
    have D0 : DS S PL H (upd (upd (upd H p0 (.lst [.int 98, .int 112, .int 108, .int 105, .int 115, .int 116, .int 48, .int 48])) z0 (.lst [.int 0])) PL (.lst (vInts (List.replicate rs.length [0]).flatten))) p0 [98, 112, 108, 105, 115, 116, 48, 48] (List.replicate rs.length [0]).flatten 8 := by
      have sp := same_new (o := .lst (vInts (List.replicate rs.length [0]).flatten)) sz hPL
      have np : p0 ≠ z0 := ne_of_none upd_same hz0
      have np2 : p0 ≠ PL := ne_of_none (by rw [upd_ne np]; exact upd_same) hPL
      exact ⟨src_same hS sp, Same.but sp, upd_same, src_ne hS hp0, np2, by rw [upd_ne np2, upd_ne np]; exact upd_same, by unfold Bytes; decide +kernel, by decide, by decide⟩
    have lps : (List.replicate rs.length [0]).flatten.length = rs.length := by
      rw [flat_len]
      exact Nat.mul_one _
    revert D0 lps
    generalize upd (upd (upd H p0 (.lst [.int 98, .int 112, .int 108, .int 105, .int 115, .int 116, .int 48, .int 48])) z0 (.lst [.int 0])) PL (.lst (vInts (List.replicate rs.length [0]).flatten)) = H1
    generalize (List.replicate rs.length [0]).flatten = ps0
    intro D0 lps
    refine ⟨_, _, rfl, ?_⟩
    have hB1 : H1 B = some (.lst rs) := D0.but _ _ hB nB
    refine ⟨_, rfl, _, rfl, B, rs, rfl, .inl (.inl (.inl hB1)), _, rfl, RgOk.of_le (by omega) (by omega) (by omega) (by omega), fun q0 hq0 => ?_⟩
    rw [rg_ints]
    have sq := same_new (o := .lst (vInts (List.range rs.length))) (Same.refl H1) hq0
    refine ⟨S, q0, List.range rs.length, rfl, src_same D0.src sq, upd_same, src_ne D0.src hq0, by rw [List.length_range]; omega, fun y0 H2 ys hy0 hB2 hS2 eY hys lys => ?_⟩
    have D2 := (D0.same sq).dig nPL hB2 hS2
    have nyP : y0 ≠ PL := (ne_of_none (sq _ _ D0.pl) hy0).symm
    have nyS : y0 ≠ S := src_ne (src_same D0.src sq) hy0
    rw [List.length_range] at lys
    have lys' : (vInts ys).length = rs.length := by rw [List.length_map, lys]
    refine ⟨y0, rfl, ⟨_, .inl (.inl eY)⟩, for_it (walk_list (K := K) (a := y0) (xs := vInts ys)) (fun i st H3 => ∃ (u5 u6 u7 u8 : Option V) (p : Addr) (ns ps : List Nat), st = [some (.ref S), some (.ref B), some (.int (n : Nat)), some (.ref p), some (.ref PL), u5, u6, u7, u8] ∧ DS S PL H H3 p ns ps (8 + 52 * i) ∧ ps.length = rs.length ∧ H3 y0 = some (.lst (vInts ys)))
      ⟨_, _, _, _, p0, _, ps0, rfl, D2, lps, eY⟩ (fun j st H8 _ q => by
        obtain ⟨_, _, _, _, _, _, _, _, _, _, q⟩ := q
        exact .inl (.inl q)) ?_ ?_⟩
    · rintro i x st H3 _ hi ⟨u5, u6, u7, u8, p, ns, ps, rfl, D3, lp3, eY3⟩ ⟨rfl, hx⟩
      obtain ⟨y, hy, rfl⟩ := List.mem_map.mp (List.mem_of_getElem? hx)
      have hyl : y < rs.length := List.mem_range.mp (hys y hy)
      have hi10 : i < 10 := Nat.lt_of_lt_of_le hi (by rw [lys']; exact lr1)
      have hn3 := D3.hi
      refine ⟨_, rfl, by show 1 ≤ sizeLine; decide, fun g1 hg1 => ?_⟩
      have sg1 := same_new (o := .lst [.int 255]) (Same.refl _) hg1
      have ng1 : g1 ≠ S := src_ne D3.src hg1
      refine ⟨_, rfl, S, _, rfl, src_same D3.src sg1, by decide, by decide, fun r1 H4 hr1' hS4 hB4 _ => ⟨by show 4 ≤ sizeLine; decide, fun g2 hg2 => ?_⟩⟩
      have sg2 := same_new (o := .lst [.int 0, .int 0, .int 0, .int (r1 : Nat)]) (Same.refl H4) hg2
      have ng2 : g2 ≠ S := src_ne hS4 hg2
      refine ⟨_, rfl, S, _, rfl, src_same hS4 sg2, by decide, by decide, fun r2 H5 hr2' hS5 hB5 _ => ?_⟩
      obtain ⟨g, hg3, hga⟩ := pick4 hr1' hr2'
      have e1 : H5 g1 = some (.lst (vInts [255])) := hB5 _ _ (sg2 _ _ (hB4 _ _ upd_same ng1)) ng1
      have D5 := (((D3.same sg1).dig nPL hB4 hS4).same sg2).dig nPL hB5 hS5
      have e2 : H5 y0 = some (.lst (vInts ys)) := hB5 _ _ (sg2 _ _ (hB4 _ _ (sg1 _ _ eY3) nyS)) nyS
      refine ⟨g2, _, _, _, rfl, rfl, .inl (.inl (hB5 _ _ upd_same ng2)), hga, g1, (g : Nat), _, rfl, rfl, e1, by omega, by omega, ?_, fun g3 hg3' => ?_⟩
      · rw [Int.toNat_natCast]
        show 1 * g ≤ sizeLine
        exact Nat.le_trans (by omega : _ ≤ 10) (by decide)
      rw [Int.toNat_natCast, flat_ints]
      have sg3 := same_new (o := .lst (vInts (List.replicate g [255]).flatten)) (Same.refl H5) hg3'
      have D6 := D5.same sg3
      have lg : (List.replicate g [255]).flatten.length ≤ 2 := by
        rw [flat_len]
        show g * 1 ≤ 2
        omega
      refine ⟨p, g3, _, _, rfl, rfl, D6.at_, upd_same, cat_len D6.hi lg (by omega), fun d1 hd1 => ?_⟩
      have bg : Bytes (List.replicate g [255]).flatten := flat_bytes (by unfold Bytes; decide +kernel)
      have D7 := D6.app (m' := 8 + 52 * i + 2) bg lg (by omega) hd1
      have e3 := same_new (o := .lst (vInts ns ++ vInts (List.replicate g [255]).flatten)) (Same.refl _) hd1 _ _ (sg3 _ _ e2)
      revert D7 e3
      generalize upd (upd H5 g3 (.lst (vInts (List.replicate g [255]).flatten))) d1 (.lst (vInts ns ++ vInts (List.replicate g [255]).flatten)) = H7
      generalize ns ++ (List.replicate g [255]).flatten = n7
      intro D7 e3
      refine ⟨_, rfl, d1, _, rfl, .inl (.inl (.inl D7.at_)), _, rfl, _, rfl, PL, _, _, y, rfl, rfl, D7.pl, ix_in (by rw [List.length_map, lp3]; exact hyl), ?_⟩
      rw [List.length_map, set_ints]
      have D8 : DS S PL H (upd H7 PL (.lst (vInts (ps.set y n7.length)))) d1 n7 (ps.set y n7.length) (8 + 52 * i + 2) :=
        ⟨src_put D7.src nPL, fun b o e q => by rw [upd_ne (ne_of_none e fPL)]; exact D7.but b o e q, upd_same, D7.nS, D7.nP, by rw [upd_ne D7.nP]; exact D7.at_, D7.by_, D7.lo, D7.hi⟩
      have e4 : (upd H7 PL (.lst (vInts (ps.set y n7.length)))) y0 = some (.lst (vInts ys)) := by
        rw [upd_ne nyP]
        exact e3
      have lp8 : (ps.set y n7.length).length = rs.length := by rw [List.length_set, lp3]
      revert D8 e4 lp8
      generalize upd H7 PL (.lst (vInts (ps.set y n7.length))) = H8
      generalize ps.set y n7.length = ps8
      intro D8 e4 lp8
      obtain ⟨q, ms, eq, nq, hq, bq, lq⟩ := (hrs rs[y] (List.getElem_mem hyl)).but D8.but
      refine ⟨_, rfl, _, rfl, _, rfl, B, rs, _, rs[y], rfl, rfl, .inl (.inl (D8.but _ _ hB nB)), atI_nat (List.getElem?_eq_getElem hyl), d1, q, _, _, rfl, eq, D8.at_, hq, cat_len D8.hi lq (by omega), fun d2 hd2 => ?_⟩
      exact ⟨_, _, _, _, d2, n7 ++ ms, ps8, rfl, D8.app bq lq (by omega) hd2, lp8, same_new (Same.refl _) hd2 _ _ e4⟩
    · rintro st H3 ⟨u5, u6, u7, u8, p, ns, ps, rfl, D3, lp3, eY3⟩
      have D3' : DS S PL H H3 p ns ps 528 := ⟨D3.src, D3.but, D3.pl, D3.nS, D3.nP, D3.at_, D3.by_, D3.lo, by
        have z := D3.hi
        rw [lys'] at z
        omega⟩
      clear D3
      refine ⟨_, rfl, p, _, rfl, .inl (.inl (.inl D3'.at_)), _, rfl, p, _, rfl, .inl (.inl (.inl D3'.at_)), _, _, rfl, rfl, .inr ⟨_, rfl, _, _, rfl, rfl, _, rfl, S, _, rfl, D3'.src, by decide, by decide, fun r H4 hr4 hS4 hB4 _ => ?_⟩⟩
      obtain ⟨c, hc, ec⟩ := size_lem (decide (((vInts ns).length : Int) > 255)) r hr4
      refine ⟨_, _, rfl, rfl, _, .int (c : Nat), congrArg (fun z => [V.int ((vInts ns).length : Nat), V.int z]) ec, ?_⟩
      have D4 := D3'.dig nPL hB4 hS4
      have lpl : (vInts ps).length ≤ 10 := by rw [List.length_map, lp3]; exact lr1
      refine ⟨_, rfl, PL, rfl, ⟨_, .inl (.inl D4.pl)⟩, for_it (walk_list (K := K) (a := PL) (xs := vInts ps)) (fun i st H5 => ∃ (v8 : Option V) (p1 : Addr) (ns1 : List Nat), st = [some (.ref S), some (.ref B), some (.int (n : Nat)), some (.ref p1), some (.ref PL), u5, some (.int ((vInts ns).length : Nat)), some (.int (c : Nat)), v8] ∧ DS S PL H H5 p1 ns1 ps (528 + 3 * i))
        ⟨_, p, ns, rfl, D4⟩ (fun j st H8 _ q => by
          obtain ⟨_, _, _, _, q⟩ := q
          exact .inl (.inl q.pl)) ?_ ?_⟩
      · rintro i x st H5 _ hi ⟨v8, p1, ns1, rfl, D5⟩ ⟨rfl, hx⟩
        obtain ⟨y, hy, rfl⟩ := List.mem_map.mp (List.mem_of_getElem? hx)
        have hi10 : i < 10 := Nat.lt_of_lt_of_le hi lpl
        refine ⟨_, rfl, _, rfl, _, rfl, (y : Nat), c, rfl, by omega, fun q H6 ms hq s6 e6 b6 l6 => ?_⟩
        have D6 := D5.same s6
        refine ⟨p1, q, _, _, rfl, rfl, D6.at_, e6, cat_len (b := 3) D6.hi (by omega) (by omega), fun d hd => ?_⟩
        exact ⟨_, d, ns1 ++ ms, rfl, D6.app (k := 3) b6 (by omega) (by omega) hd⟩
      · rintro st H5 ⟨v8, p1, ns1, rfl, D5⟩
        have D5' : DS S PL H H5 p1 ns1 ps 558 := ⟨D5.src, D5.but, D5.pl, D5.nS, D5.nP, D5.at_, D5.by_, D5.lo, by
          have z := D5.hi
          omega⟩
        clear D5
        refine ⟨_, rfl, ?_⟩
        refine mkb_rep (k := 6) (mkb_lit [0] (by unfold Bytes; decide +kernel) (by decide)) (by decide) (by decide) _ _ _ fun g1 H6 zs f1 s6 e6 b6 l6 => ?_
        have D6 := D5'.same s6
        refine ⟨p1, g1, _, _, rfl, rfl, D6.at_, e6, cat_len D6.hi l6 (by decide), fun d1 hd1 => ?_⟩
        have D7 := D6.app (m' := 564) b6 l6 (by decide) hd1
        revert D7
        generalize upd H6 d1 (.lst (vInts ns1 ++ vInts zs)) = H7
        generalize ns1 ++ zs = n7
        intro D7
        refine ⟨_, rfl, _, rfl, by show 2 ≤ sizeLine; decide, fun g2 hg2 => ?_⟩
        have D8 := D7.same (same_new (o := .lst [.int (c : Nat), .int (n : Nat)]) (Same.refl H7) hg2)
        refine ⟨d1, g2, _, vInts [c, n], rfl, rfl, D8.at_, upd_same, cat_len (b := 2) D8.hi (by show 2 ≤ 2; decide) (by decide), fun d2 hd2 => ?_⟩
        have D9 := D8.app (k := 2) (m' := 566) (ms := [c, n]) (fun x hx => by
          rcases List.mem_cons.mp hx with rfl | hx
          · omega
          · rw [List.mem_singleton.mp hx]
            omega) (by show 2 ≤ 2; decide) (by decide) hd2
        revert D9
        generalize upd (upd H7 g2 (.lst [.int (c : Nat), .int (n : Nat)])) d2 (.lst (vInts n7 ++ vInts [c, n])) = H9
        generalize n7 ++ [c, n] = n9
        intro D9
        have hB9 := D9.but _ _ hB nB
        refine ⟨_, rfl, B, rs, rfl, .inl (.inl (.inl hB9)), _, rfl, B, rs, rfl, .inl (.inl (.inl hB9)), _, _, rfl, rfl, _, rfl, by show 3 ≤ sizeLine; decide, fun t0 ht0 => ?_⟩
        have st := same_new (o := .tup [.int (rs.length : Nat), .int ((rs.length : Nat) - 1), .int ((vInts ns).length : Nat)]) (Same.refl H9) ht0
        refine ⟨t0, rfl, ⟨_, .inl (.inl upd_same)⟩, for_it (walk_tup (K := K) (a := t0) (xs := [.int (rs.length : Nat), .int ((rs.length : Nat) - 1), .int ((vInts ns).length : Nat)])) (fun i st H5 => ∃ (v5 : Option V) (p1 : Addr) (ns1 : List Nat), st = [some (.ref S), some (.ref B), some (.int (n : Nat)), some (.ref p1), some (.ref PL), v5, some (.int ((vInts ns).length : Nat)), some (.int (c : Nat)), v8] ∧ DS S PL H H5 p1 ns1 ps (566 + 8 * i) ∧ H5 t0 = some (.tup [.int (rs.length : Nat), .int ((rs.length : Nat) - 1), .int ((vInts ns).length : Nat)]))
          ⟨_, d2, n9, rfl, D9.same st, upd_same⟩ (fun j st H8 _ q => by
            obtain ⟨_, _, _, _, _, q⟩ := q
            exact .inl (.inl q)) ?_ ?_⟩
        · rintro i x st H5 _ hi ⟨v5, p2, ns2, rfl, Da, et⟩ ⟨rfl, hx⟩
          have hi3 : i < 3 := hi
          obtain ⟨y, rfl⟩ : ∃ y : Int, x = .int y := by
            have m := List.mem_of_getElem? hx
            rcases List.mem_cons.mp m with rfl | m
            · exact ⟨_, rfl⟩
            rcases List.mem_cons.mp m with rfl | m
            · exact ⟨_, rfl⟩
            exact ⟨_, List.mem_singleton.mp m⟩
          refine ⟨_, rfl, _, rfl, y, 8, rfl, by omega, fun q H6 ms hq s6 e6 b6 l6 => ?_⟩
          have D6 := Da.same s6
          refine ⟨p2, q, _, _, rfl, rfl, D6.at_, e6, cat_len (b := 8) D6.hi (by omega) (by omega), fun d hd => ?_⟩
          exact ⟨_, d, ns2 ++ ms, rfl, D6.app (k := 8) b6 (by omega) (by omega) hd, same_new (Same.refl _) hd _ _ (s6 _ _ et)⟩
        · rintro st H5 ⟨v5, p2, ns2, rfl, Da, et⟩
          have l2 : ns2.length ≤ 1000 := Nat.le_trans Da.hi (by show 566 + 8 * 3 ≤ 1000; decide)
          refine ⟨_, rfl, _, rfl, by show 2 ≤ sizeLine; decide, fun t1 ht1 => ?_⟩
          have Db := Da.same (same_new (o := .tup [.ref p2, .ref PL]) (Same.refl H5) ht1)
          exact k t1 p2 PL _ ns2 upd_same Db.at_ Db.nS Db.lo l2 Db.by_ Db.but Db.src
end
end G58

set_option Elab.async false
set_option linter.all false
set_option maxRecDepth 100000
set_option maxHeartbeats 4000000
/-! k19: what a row says. -/
namespace G58
open PySem PySem.Spec PyProof.Rows L2
/-- which class is caught by which clause -/
structure Exm (K : PySem.W.Frag) (a : Ad) : Prop where
  bb : PySem.W.exmOne K (.ref a.cB) (.ref a.cB) = some true
  rb : PySem.W.exmOne K (.ref a.cR) (.ref a.cB) = some false
  rr : PySem.W.exmOne K (.ref a.cR) (.ref a.cR) = some true
def Pair (H : Hp) (Q : VK) (z : Str) (i : Int) : Prop := ∀ (t : Addr) (H' : Hp), Same H H' → H' t = some (.tup [.str z, .int i]) → Q (.ref t) H'
def spSaid (K : PySem.W.Frag) : Sp := fun vs H Q _ => ∃ (p : Addr) (xs : List V), vs = [.ref p] ∧ (SqL K H p xs ∨ SqT K H p xs) ∧ (∀ x ∈ xs, Kd K H x) ∧
  (∀ i, xs.findIdx? (fun x => !byteV x) = some i → ∀ H', Same H H' → Q (.int (i : Nat)) H') ∧
  (xs.findIdx? (fun x => !byteV x) = none → SqL K H p xs ∧ (xs.length < 42 → Pair H Q "short" xs.length) ∧ (42 ≤ xs.length → (∃ v : Int, xs[0]? = some (.int v) ∧ v ≠ 98) ∧ Pair H Q "header" 0))
theorem look_plc (v : V) : (plc v).lookup ("place" : Str) = some v := by simp [List.lookup]
theorem look_wrd1 (u v : V) : (wrd u v).lookup ("place" : Str) = some v := by simp [List.lookup]
theorem look_wrd2 (u v : V) : (wrd u v).lookup ("word" : Str) = some u := by
  unfold wrd
  rw [List.lookup_cons, List.lookup_cons]
  have e1 : (("word" : Str) == ("place" : Str)) = false := by decide +kernel
  have e2 : (("word" : Str) == ("word" : Str)) = true := by decide +kernel
  rw [e1, e2]
theorem set3 {st : L2.St} {x v : V} (h : 2 < st.length) : (((st.set 2 (some x)).set 1 (some v)).set 2 none)[1]? = some (some v) := by
  rw [List.getElem?_set_ne (by decide), List.getElem?_set_self]
  rw [List.length_set]
  omega
section
variable {P : Program} {w : World} {K : PySem.W.Frag} {mg : Str → Option Value} {base : Heap} {a : Ad}
theorem scSaid : FnScope ["_law_data", "_law_found", "e"] ["_law_data"] (defScope sSaid) := ⟨rfl, rfl, rfl, by decide +kernel, rfl, by decide +kernel, by decide +kernel⟩
theorem ok_said {f : Addr} {fd fdR : FuncData} (F : Fun K "_law_said" "_law_said" sSaid f fd) (T : Txt K mg a) (M : Exm K a) (kR : PySem.W.keepIn K (.ref a.fRead) = true) (bR : L2.Binds K fdR ["data"] []) (GR : FnOk P w K mg base (L2.CX P w) 4 a.fRead fdR ["data"] (spRead K a)) :
    FnOk P w K mg base CX0 5 f fd ["_law_data"] (spSaid K) := by
  refine F.ok scSaid (fun vs H Q E h => ?_) (fun cdv A outer s H vs Q E hr h => ?_)
  · obtain ⟨p, xs, rfl, _⟩ := h
    rfl
  · obtain ⟨p, xs, rfl, hS, hK, hbad, hgood⟩ := h
    refine ⟨_, pss_cons (ps_set (i := 1) scSaid.nd rfl (.inl rfl) pe_non) (pss_cons (ps_try_mix
      (l := [⟨.ref a.cB, some 2, _⟩, ⟨.ref a.cR, some 2, _⟩, ⟨.ref a.cN, none, _⟩])
      (tb := fun W D st H => ∃ Ech : XK, (∀ cls d st' H', Ech cls d H' → W cls d st' H') ∧ ∃ v, st[0]? = some (some v) ∧ spRead K a [v] H (fun _ H' => D.nx st H') Ech)
      rfl rfl L2.takes0 (fun W pn xe tk _ => ?_)
      (.named scSaid.nd rfl rfl ⟨rfl, by decide, .inl T.gB⟩ (fun x oe k d pn hz hf => pss_one (ps_set (i := 1) scSaid.nd rfl (.inl rfl) (pe_xf T.xB.xf T.noB hz hf (pv 2))))
      (.named scSaid.nd rfl rfl ⟨rfl, by decide, .inl T.gR⟩ (fun x oe k d pn hz hf => pss_one (ps_set (i := 1) scSaid.nd rfl (.inl rfl) (pe_tup (pa_cons (pe_xf T.xR.xf T.noW hz hf (pv 2)) (pa_cons (pe_xf T.xR.xf T.noR hz hf (pv 2)) pa_nil)))))
      (.bare ⟨rfl, by decide, .inl T.gN⟩ (fun x oe k d pn hz hf => pss_one (ps_set (i := 1) scSaid.nd rfl (.inl rfl) pe_str)) .nil)))) (pss_one (ps_ret (pv 1)))), ?_⟩
    · refine ⟨fun pins s' st H' D I h' => ?_⟩
      obtain ⟨Ech, hW, v, h1, h2⟩ := h'
      refine PSs.run (t := tDrop (tCall (spRead K a) [] Ech (tCons (tVar 0) tNil))) ?_ pins s' st H' D I ⟨v, h1, h2⟩
      exact pss_one (ps_expr (pe_call GR hr rfl T.gRead kR bR .nil (passes_call tk hW) (pa_cons (pv 0) pa_nil)))
    · refine ⟨fun cls d H' => (cls = .ref a.cB ∧ ∃ (dd : Addr) (i : Nat), d = some dd ∧ xs.findIdx? (fun x => !byteV x) = some i ∧ Same H H' ∧ H' dd = some (.xd (plc (.int (i : Nat))))) ∨
        (cls = .ref a.cR ∧ ∃ (dd : Addr) (z : Str) (i : Int), d = some dd ∧ Same H H' ∧ H' dd = some (.xd (wrd (.str z) (.int i))) ∧ Pair H Q z i), fun cls d st' H' hE => ?_, _, rfl, p, xs, rfl, hS, hK, ?_, ?_⟩
      · rcases hE with ⟨rfl, dd, i, rfl, hi, s1, hd⟩ | ⟨rfl, dd, z, i, rfl, s1, hd, hp⟩
        · refine ⟨true, M.bb, fun _ x hx hlt => ?_, fun z => Bool.noConfusion z⟩
          exact ⟨.ref x, List.getElem?_set_self hlt, rfl, rfl, dd, _, _, rfl, hd, look_plc _, _, set3 hlt, hbad i hi H' s1⟩
        · refine ⟨false, M.rb, fun z => Bool.noConfusion z, fun _ => ⟨true, M.rr, fun _ x hx hlt => ?_, fun z => Bool.noConfusion z⟩⟩
          refine ⟨.ref x, List.getElem?_set_self hlt, rfl, rfl, dd, _, _, rfl, hd, look_wrd2 _ _, .ref x, List.getElem?_set_self hlt, rfl, rfl, dd, _, _, rfl, hd, look_wrd1 _ _, by show 2 ≤ sizeLine; decide, fun t ht => ?_⟩
          exact ⟨_, set3 hlt, hp t _ (same_new s1 ht) upd_same⟩
      · intro i hi d H' s1 hd
        exact .inl ⟨rfl, d, i, rfl, hi, s1, hd⟩
      · intro hn
        obtain ⟨h1, h2, h3⟩ := hgood hn
        exact ⟨h1, fun hl d H' s1 hd => .inr ⟨rfl, d, _, _, rfl, s1, hd, h2 hl⟩, fun hl => ⟨(h3 hl).1, fun d H' s1 hd => .inr ⟨rfl, d, _, _, rfl, s1, hd, (h3 hl).2⟩⟩⟩
end
end G58

set_option Elab.async false
set_option linter.all false
set_option maxRecDepth 100000
set_option maxHeartbeats 4000000
/-! k19: the law. -/
namespace G58
open PySem PySem.Spec PyProof.Rows L2
/-- xs + ys, each a list that is to be read -/
def rCatS (K : PySem.W.Frag) : R2 := fun x y H Q => ∃ l b xs zs, x = .ref l ∧ y = .ref b ∧ SqL K H l xs ∧ SqL K H b zs ∧ xs.length + zs.length ≤ sizeLine ∧ ∀ p, H p = none → Q (.ref p) (upd H p (.lst (xs ++ zs)))
theorem op_catS {X : Cx} : OpR X (binaryOp .Add) (rCatS X.K) := by
  intro pins s st H x y v u Q Iv rx ry h
  obtain ⟨l, b, xs, zs, rfl, rfl, hl, hb, hz, q⟩ := h
  cases rx
  cases ry
  obtain ⟨its, r, pl, _⟩ := Iv.list hl
  obtain ⟨its2, r2, pl2, _⟩ := Iv.list hb
  have e1 := r.length
  have e2 := r2.length
  obtain ⟨⟨cls, dd, data, sl⟩, ho, hc, n, hd⟩ := id pl.isList
  obtain ⟨⟨cls2, dd2, data2, sl2⟩, ho2, hc2, n2, hd2⟩ := id pl2.isList
  simp only at hc hd hc2 hd2
  subst hc hd hc2 hd2
  refine concat_meets ⟨_, ho, rfl⟩ ⟨_, ho2, rfl⟩ noFill_list_add seq_list_add PySem.F.slot_list_add PySem.F.entry_list_add (PySem.F.args_list_add_2 _ _)
    (list_addW l b its.toArray its2.toArray n n2 dd dd2 sl sl2 (by rw [List.size_toArray, List.size_toArray]; omega)) ⟨ho, ho2, ?_⟩
  rw [show its.toArray ++ its2.toArray = (its ++ its2).toArray from by simp]
  exact ⟨.ref _, _, Iv.lnew (t' := s.toks) (r.append r2) (by rw [List.length_append]; omega), rfl, q _ Iv.fresh⟩
theorem cut_ints (ns : List Nat) (lo hi : Option Int) : ∃ ms : List Nat, cutV (vInts ns) lo hi = vInts ms ∧ ms.length ≤ ns.length ∧ ∀ m ∈ ms, m ∈ ns := by
  refine ⟨(ns.drop (HT.sIx (vInts ns).length 0 lo)).take (HT.sIx (vInts ns).length (vInts ns).length hi - HT.sIx (vInts ns).length 0 lo), ?_, ?_, ?_⟩
  · unfold cutV
    show _ = List.map _ (List.take _ (List.drop _ ns))
    rw [List.map_take, List.map_drop]
  · rw [List.length_take, List.length_drop]
    omega
  · intro m hm
    exact List.mem_of_mem_drop (List.mem_of_mem_take hm)
/-- an item of the spoilt row -/
def WK (S T : Addr) (H : Hp) : V → Prop
  | .int _ => True
  | .non => True
  | .bl _ => True
  | .str _ => True
  | .ref b => b ≠ S ∧ b ≠ T ∧ ∃ ys, H b = some (.lst ys)
  | _ => False
theorem WK.kd {K : PySem.W.Frag} {S T : Addr} {H : Hp} {x : V} (h : WK S T H x) : Kd K H x := by
  cases x with
  | int i => exact .int i
  | non => exact .non
  | bl b => exact .bl b
  | str z => exact .str z
  | ref b =>
    obtain ⟨_, _, ys, q⟩ := h
    exact .lst q
  | _ => exact h.elim
theorem WK.go {S T : Addr} {H H' : Hp} {x : V} (e : ∀ b o, H b = some o → b ≠ S → b ≠ T → H' b = some o) (h : WK S T H x) : WK S T H' x := by
  cases x with
  | ref b =>
    obtain ⟨n1, n2, ys, q⟩ := h
    exact ⟨n1, n2, ys, e _ _ q n1 n2⟩
  | _ => exact h
theorem neF {i : Int} {A B : Prop} (h : B) : if (!PyData.eqv (.int i) (.int i)) = true then A else B := by
  have e : PyData.eqv (.int i) (.int i) = true := by
    show (i == i) = true
    exact beq_self_eq_true i
  rw [e]
  exact iteF h
abbrev dPair (z : Str) (i : Int) : PyData := .tuple [.str z, .int i]
theorem pairF {z : Str} {i : Int} {A B : Prop} (h : B) : if (!PyData.eqv (dPair z i) (dPair z i)) = true then A else B := by
  have e : PyData.eqv (dPair z i) (dPair z i) = true := by
    show ((z == z) && ((i == i) && true)) = true
    rw [beq_self_eq_true i, beq_self_eq_true z]
    rfl
  rw [e]
  exact iteF h
theorem dp_pair {K : PySem.W.Frag} {H : Hp} {t : Addr} {z : Str} {i : Int} (h : H t = some (.tup [.str z, .int i])) : Dp K H (.ref t) (dPair z i) := .tup (.inl (.inl h)) (.cons (.str z) (.cons (.int i) .nil))
theorem shaped_pair {z : Str} {i : Int} (h : PyData.canLay0 (.str z) = true) : SeqAt.shaped (dPair z i) = true := by
  have e : PyData.canLay0 (dPair z i) = true := by
    show (PyData.canLay0 (.str z) && (true && true)) = true
    rw [h]
    rfl
  unfold SeqAt.shaped
  rw [e]
  rfl
theorem shaped_int (i : Int) : SeqAt.shaped (.int i) = true := rfl
abbrev vz (n : Int) : List V := (List.replicate n.toNat [V.int 0]).flatten
theorem vz_kd {K : PySem.W.Frag} {H : Hp} {n : Int} : ∀ x ∈ vz n, Kd K H x := fun x hx => by
  obtain ⟨l, hl, hn⟩ := List.mem_flatten.mp hx
  rw [List.eq_of_mem_replicate hl] at hn
  rw [List.mem_singleton.mp hn]
  exact .int 0
theorem vz41 : (vz 41).findIdx? (fun x => !byteV x) = none := by decide +kernel
theorem vz42 : (vz 42).findIdx? (fun x => !byteV x) = none := by decide +kernel
theorem pick7 {S T q1 : Addr} {H : Hp} {r : Nat} (h : (r : Int) < 7) (n1 : q1 ≠ S) (n2 : q1 ≠ T) (hq : ∃ ys, H q1 = some (.lst ys)) :
    ∃ v, atI [.int (-1), .int 256, .bl true, .non, .str "a", .ref q1, .int (10 ^ (30 : Int).toNat)] (r : Nat) = some v ∧ byteV v = false ∧ WK S T H v := by
  have e : r = 0 ∨ r = 1 ∨ r = 2 ∨ r = 3 ∨ r = 4 ∨ r = 5 ∨ r = 6 := by omega
  rcases e with rfl | rfl | rfl | rfl | rfl | rfl | rfl
  · exact ⟨_, rfl, by decide, trivial⟩
  · exact ⟨_, rfl, by decide, trivial⟩
  · exact ⟨_, rfl, rfl, trivial⟩
  · exact ⟨_, rfl, rfl, trivial⟩
  · exact ⟨_, rfl, rfl, trivial⟩
  · exact ⟨_, rfl, rfl, n1, n2, hq⟩
  · exact ⟨_, rfl, by decide +kernel, trivial⟩
def spLaw (K : PySem.W.Frag) : Sp := fun vs H Q _ => ∃ (p : Addr) (ns : List Int), vs = [.ref p] ∧ SqL K H p (ns.map V.int) ∧ ns.length ≤ 63 ∧ ∀ H', Q (.bl true) H'
section
variable {P : Program} {w : World} {K : PySem.W.Frag} {mg : Str → Option Value} {base : Heap} {l : Ld}
theorem scLaw : FnScope ["_law_script", "_law_number", "_law_s", "_law_width", "_law_data", "_law_places", "_law_spoilt", "_law_turn", "_law_wrong", "_law_due", "_law_at", "_law_one"] ["_law_script"] (defScope sLaw) := ⟨rfl, rfl, rfl, by decide +kernel, rfl, by decide +kernel, by decide +kernel⟩
theorem ok_law {f : Addr} {fd fdSt fdD fdAs fdBo fdIb fdSd : FuncData} (F : Fun K "law" "law" sLaw f fd) (L : LTx mg l) (FSt : Fun K "_law_state" "_law_state" sSta l.fSta fdSt) (bSt : L2.Binds K fdSt ["_law_source"] [])
    (FD : Fun K "_law_digit" "_law_digit" sDig l.fDig fdD) (bD : L2.Binds K fdD ["_law_state_here", "_law_base"] [])
    (FIb : Fun K "_law_is_byte" "_law_is_byte" sIsb l.fIsb fdIb) (bIb : L2.Binds K fdIb ["_law_one"] [])
    (FBo : Fun K "_law_bodies" "_law_bodies" sBod l.fBod fdBo) (bBo : L2.Binds K fdBo ["_law_s", "_law_width"] []) (GBo : FnOk P w K mg base CX0 3 l.fBod fdBo ["_law_s", "_law_width"] spBod)
    (FAs : Fun K "_law_assembled" "_law_assembled" sAss l.fAss fdAs) (bAs : L2.Binds K fdAs ["_law_s", "_law_bodies_here", "_law_width"] []) (GAs : FnOk P w K mg base CX0 3 l.fAss fdAs ["_law_s", "_law_bodies_here", "_law_width"] spAss)
    (FSd : Fun K "_law_said" "_law_said" sSaid l.fSaid fdSd) (bSd : L2.Binds K fdSd ["_law_data"] []) (GSd : FnOk P w K mg base CX0 5 l.fSaid fdSd ["_law_data"] (spSaid K)) :
    FnOk P w K mg base CX0 6 f fd ["_law_script"] (spLaw K) := by
  have GSt : FnOk P w K mg base CX0 1 l.fSta fdSt ["_law_source"] spSta := ok_sta FSt L
  have GD : FnOk P w K mg base CX0 1 l.fDig fdD ["_law_state_here", "_law_base"] spDig := ok_dig FD L
  have GIb : FnOk P w K mg base CX0 1 l.fIsb fdIb ["_law_one"] (spIsb K) := ok_isb FIb L
  refine F.ok scLaw (fun vs H Q E h => ?_) (fun cdv A outer s H vs Q E hr h => ?_)
  · obtain ⟨p, ns, rfl, _⟩ := h
    rfl
  · obtain ⟨p, sc, rfl, hp, hl, k⟩ := h
    have hr5 : Room 5 _ := hr
    have hr3 : Room 3 _ := hr.mono (by decide)
    have hr1 : Room 1 _ := hr.mono (by decide)
    refine ⟨_, (pss_cons (ps_for PassesOwn.never rfl (pi_list (pe_slice sl_list (pe_op op_catS (pv 0) (pe_lst (pa_cons pe_int pa_nil))) po_none (po_some pe_int))) (pg_name (i := 1) scLaw.nd rfl (.inl rfl)) (pss_cons (ps_set (i := 2) scLaw.nd rfl (.inl rfl) (pe_call GSt hr1 rfl L.gSta FSt.kp bSt .nil pass0 (pa_cons (pv 1) pa_nil))) (pss_cons (ps_set (i := 3) scLaw.nd rfl (.inl rfl) (pe_op op_add pe_int (pe_call GD hr1 rfl L.gDig FD.kp bD .nil pass0 (pa_cons (pv 2) (pa_cons pe_int pa_nil))))) (pss_cons (ps_asg (pe_call GAs hr3 rfl L.gAss FAs.kp bAs .nil pass0 (pa_cons (pv 2) (pa_cons (pe_call GBo hr3 rfl L.gBod FBo.kp bBo .nil pass0 (pa_cons (pv 2) (pa_cons (pv 3) pa_nil))) (pa_cons (pv 3) pa_nil)))) (pg_tup rfl (pgs_cons (pg_name (i := 4) scLaw.nd rfl (.inl rfl)) (pgs_cons (pg_name (i := 5) scLaw.nd rfl (.inl rfl)) pgs_nil)))) (pss_cons (ps_set (i := 4) scLaw.nd rfl (.inl rfl) (pe_ix ix_list (pe_lst (pa_cons (pv 4) (pa_cons (pe_op op_cat (pe_slice sl_list (pv 4) po_none (po_some (pe_call GD hr1 rfl L.gDig FD.kp bD .nil pass0 (pa_cons (pv 2) (pa_cons pe_int pa_nil))))) (pe_lst (pa_cons pe_int pa_nil))) (pa_cons (pe_lst (pa_cons pe_int pa_nil)) pa_nil)))) (pe_call GD hr1 rfl L.gDig FD.kp bD .nil pass0 (pa_cons (pv 2) (pa_cons pe_int pa_nil))) (fun _ _ => rfl))) (pss_cons (ps_set (i := 6) scLaw.nd rfl (.inl rfl) (pe_callTy call_list_of (by rfl) L.bList (by decide +kernel) (pa_cons (pv 4) pa_nil))) (pss_cons (ps_for PassesOwn.never rfl (pi_range1 (by rfl) L.bRange (pa_cons (pe_op op_add pe_int (pe_call GD hr1 rfl L.gDig FD.kp bD .nil pass0 (pa_cons (pv 2) (pa_cons pe_int pa_nil)))) pa_nil)) (pg_name (i := 7) scLaw.nd rfl (.inl rfl)) (pss_cons (ps_set (i := 8) scLaw.nd rfl (.inl rfl) (pe_ix ix_list (pe_lst (pa_cons (pe_un un_neg pe_int) (pa_cons pe_int (pa_cons pe_bl (pa_cons pe_non (pa_cons pe_str (pa_cons (pe_lst (pa_cons pe_int pa_nil)) (pa_cons (pe_op op_pow pe_int pe_int) pa_nil)))))))) (pe_call GD hr1 rfl L.gDig FD.kp bD .nil pass0 (pa_cons (pv 2) (pa_cons pe_int pa_nil))) (fun _ _ => rfl))) (pss_one (ps_asg (pv 8) (pg_sub (pv 6) (pe_call GD hr1 rfl L.gDig FD.kp bD .nil pass0 (pa_cons (pv 2) (pa_cons (pe_callB call_len_seq (by rfl) L.bLen PySem.boot_len (pa_cons (pv 4) pa_nil)) pa_nil))) set_list))))) (pss_cons (ps_setLc (i := 9) (own := [("_law_at", 10), ("_law_one", 11)]) (g := (gTup K 2 (gCons (gName 10) (gCons (gName 11) gNil)))) rfl scLaw.nd rfl rfl (sw_true rfl rfl rfl (by decide +kernel)) (pi_enum (by rfl) L.bEnumerate (pa_cons (pv 6) pa_nil)) (blkOk_by (N := ["_law_script", "_law_number", "_law_s", "_law_width", "_law_data", "_law_places", "_law_spoilt", "_law_turn", "_law_wrong", "_law_due", "_law_at", "_law_one"]) (sc := defScope sLaw) (by decide +kernel)) (fun _ _ _ _ _ => (pg_tup rfl (pgs_cons (pg_name (i := 10) scLaw.nd rfl (.inl rfl)) (pgs_cons (pg_name (i := 11) scLaw.nd rfl (.inl rfl)) pgs_nil)))) (fun _ _ _ _ _ => pts_one (pt_not (pt_val (pe_call GIb hr1 rfl L.gIsb FIb.kp bIb .nil pass0 (pa_cons (pv 11) pa_nil))))) (fun _ _ _ _ _ => (pv 10))) (pss_cons (ps_if (PW.pt (pw_or (pt_cmpR (op_neD hr.units) (pe_call GSd hr5 rfl L.gSaid FSd.kp bSd .nil pass0 (pa_cons (pv 6) pa_nil)) (pe_ix ix_list (pv 9) pe_int (fun _ _ => rfl)) (nomark _)) (pw_or1 (pt_cmpR (op_neD hr.units) (pe_call GSd hr5 rfl L.gSaid FSd.kp bSd .nil pass0 (pa_cons (pe_callTy call_tuple_of (by rfl) L.bTuple (by decide +kernel) (pa_cons (pv 6) pa_nil)) pa_nil)) (pe_ix ix_list (pv 9) pe_int (fun _ _ => rfl)) (nomark _))))) (pss_one (ps_ret pe_bl)) pss_nil) (pss_cons (ps_if (PW.pt (pw_or (pt_cmpR (op_neD hr.units) (pe_call GSd hr5 rfl L.gSaid FSd.kp bSd .nil pass0 (pa_cons (pe_lst pa_nil) pa_nil)) (pe_tup (pa_cons pe_str (pa_cons pe_int pa_nil))) (nomark _)) (pw_or1 (pt_cmpR (op_neD hr.units) (pe_call GSd hr5 rfl L.gSaid FSd.kp bSd .nil pass0 (pa_cons (pe_op op_rep (pe_lst (pa_cons pe_int pa_nil)) pe_int) pa_nil)) (pe_tup (pa_cons pe_str (pa_cons pe_int pa_nil))) (nomark _))))) (pss_one (ps_ret pe_bl)) pss_nil) (pss_one (ps_if (pt_cmpR (op_neD hr.units) (pe_call GSd hr5 rfl L.gSaid FSd.kp bSd .nil pass0 (pa_cons (pe_op op_rep (pe_lst (pa_cons pe_int pa_nil)) pe_int) pa_nil)) (pe_tup (pa_cons pe_str (pa_cons pe_int pa_nil))) (nomark _)) (pss_one (ps_ret pe_bl)) pss_nil)))))))))))) (pss_one (ps_ret pe_bl))), ?_⟩
    refine ⟨_, rfl, by show 1 ≤ sizeLine; decide, fun l0 hl0 => ?_⟩
    have s0 : Same H (upd H l0 (.lst [.int 0])) := same_new (Same.refl H) hl0
    refine ⟨p, l0, _, _, rfl, rfl, s0.seq hp, .inl (.inl upd_same), ?_, fun c1 hc1 => ⟨3, rfl, c1, _, rfl, .inl (.inl upd_same), fun s1 hs1 => ⟨s1, rfl, ⟨_, .inl (.inl upd_same)⟩, for_it (walk_list (K := K) (a := s1) (xs := cutV (sc.map V.int ++ [.int 0]) none (some 3)))
      (fun i st H1 => ∃ u1 u2 u3 u4 u5 u6 u7 u8 u9 u10 u11, st = [some (.ref p), u1, u2, u3, u4, u5, u6, u7, u8, u9, u10, u11] ∧ H1 s1 = some (.lst (cutV (sc.map V.int ++ [.int 0]) none (some 3)))) ⟨_, _, _, _, _, _, _, _, _, _, _, rfl, upd_same⟩ (fun i st H1 _ q => by
        obtain ⟨_, _, _, _, _, _, _, _, _, _, _, _, q⟩ := q
        exact .inl (.inl q)) ?_ ?_⟩⟩⟩
    · rw [List.length_map]
      show _ + 1 ≤ sizeLine
      exact Nat.le_trans (by omega : _ ≤ 100) (by decide)
    · generalize hcut : cutV (sc.map V.int ++ [.int 0]) none (some 3) = CUT
      rintro i x st H1 _ hi ⟨u1, u2, u3, u4, u5, u6, u7, u8, u9, u10, u11, rfl, h1⟩ ⟨rfl, hx⟩
      obtain ⟨z, rfl⟩ : ∃ z, x = .int z := by
        have m := List.mem_of_getElem? hx
        rw [← hcut] at m
        rcases List.mem_append.mp (mem_cut m) with m | m
        · obtain ⟨z, _, e⟩ := List.mem_map.mp m
          exact ⟨z, e.symm⟩
        · exact ⟨0, List.mem_singleton.mp m⟩
      refine ⟨_, rfl, z, rfl, fun S H2 hS0 s2 hS2 => ?_⟩
      have n1 : s1 ≠ S := ne_of_none h1 hS0
      have e2 := s2 _ _ h1
      refine ⟨_, rfl, S, _, rfl, hS2, by decide, by decide, fun r H3 hr3' hS3 hB3 _ => ⟨_, _, rfl, rfl, ?_⟩⟩
      have e3 := hB3 _ _ e2 n1
      refine ⟨_, rfl, _, rfl, _, rfl, S, 1 + r, rfl, hS3, by omega, fun B H4 rs fB hB4 hS4 eB l0 l1 hrs => ?_⟩
      have nB : B ≠ S := src_ne hS3 fB
      refine ⟨_, rfl, S, B, 1 + r, rs, rfl, hS4, eB, nB, l0, l1, hrs, by omega, fun t d pl H5 ns et ed nd n0 n9 nb hB5 hS5 => ?_⟩
      refine ⟨t, _, rfl, .inl (.inl et), rfl, _, _, rfl, _, _, rfl, rfl, ?_⟩
      have e5 := hB5 _ _ (hB4 _ _ e3 n1) n1
      refine ⟨_, rfl, _, rfl, _, rfl, S, _, rfl, hS5, by decide, by decide, fun r6 H6 hr6 hS6 hB6 _ => ⟨_, rfl, d, _, rfl, .inl (.inl (hB6 _ _ ed nd)), fun c1 hc1 => ?_⟩⟩
      obtain ⟨ms, ems, lms, mms⟩ := cut_ints ns none (some (r6 : Int))
      rw [ems]
      have s61 := same_new (o := .lst (vInts ms)) (Same.refl H6) hc1
      refine ⟨by show 1 ≤ sizeLine; decide, fun c2 hc2 => ?_⟩
      have s62 := same_new (o := .lst [.int 0]) s61 hc2
      have f1 : c1 ≠ c2 := ne_of_none upd_same hc2
      refine ⟨c1, c2, vInts ms, vInts [0], rfl, rfl, by rw [upd_ne f1]; exact upd_same, upd_same, cat_len (a := 1000) (b := 1) (by omega) (by decide) (by decide), fun c3 hc3 => ?_⟩
      have s63 := same_new (o := .lst (vInts ms ++ vInts [0])) s62 hc3
      have nc3 : c3 ≠ S := src_ne (src_same hS6 s62) hc3
      refine ⟨by show 1 ≤ sizeLine; decide, fun c4 hc4 => ⟨by show 3 ≤ sizeLine; decide, fun c5 hc5 => ?_⟩⟩
      have s64 := same_new (o := .lst [.int 7]) s63 hc4
      have nc4 : c4 ≠ S := src_ne (src_same hS6 s63) hc4
      have s65 := same_new (o := .lst [.ref d, .ref c3, .ref c4]) s64 hc5
      have nc5 : c5 ≠ S := src_ne (src_same hS6 s64) hc5
      have g3 := same_new (o := .lst [.ref d, .ref c3, .ref c4]) (same_new (o := .lst [.int 7]) (Same.refl _) hc4) hc5 c3 _ upd_same
      have g4 := same_new (o := .lst [.ref d, .ref c3, .ref c4]) (Same.refl _) hc5 c4 _ upd_same
      have gd := s65 _ _ (hB6 _ _ ed nd)
      refine ⟨_, rfl, S, _, rfl, src_same hS6 s65, by decide, by decide, fun r7 H7 hr7 hS7 hB7 _ => ?_⟩
      have pick : ∃ (D0 : Addr) (n0s : List Nat), atI [.ref d, .ref c3, .ref c4] (r7 : Nat) = some (V.ref D0) ∧ D0 ≠ S ∧ H7 D0 = some (.lst (vInts n0s)) ∧ Bytes n0s ∧ 1 ≤ n0s.length ∧ n0s.length ≤ 1001 := by
        rcases (by omega : r7 = 0 ∨ r7 = 1 ∨ r7 = 2) with rfl | rfl | rfl
        · exact ⟨d, ns, rfl, nd, hB7 _ _ gd nd, nb, n0, by omega⟩
        · refine ⟨c3, ms ++ [0], rfl, nc3, hB7 _ _ (by rw [vInts_app]; exact g3) nc3, Bytes.app (fun m hm => nb m (mms m hm)) (Bytes.one (by decide)), ?_, ?_⟩
          · rw [List.length_append]
            exact Nat.le_add_left 1 _
          · rw [List.length_append]
            exact Nat.add_le_add (by omega : ms.length ≤ 1000) (Nat.le_refl 1)
        · exact ⟨c4, [7], rfl, nc4, hB7 _ _ g4 nc4, Bytes.one (by decide), by decide, by decide⟩
      obtain ⟨D0, n0s, hat, nD, eD, bD0, lD0, lD1⟩ := pick
      have e7 := hB7 _ _ (s65 _ _ (hB6 _ _ e5 n1)) n1
      refine ⟨c5, _, _, _, rfl, rfl, .inl (.inl (hB7 _ _ upd_same nc5)), hat, ?_⟩
      clear s61 s62 s63 s64 s65 g3 g4 gd
      refine ⟨_, rfl, D0, _, rfl, .inl (.inl (.inl eD)), fun SP hSP => ?_⟩
      have sS := same_new (o := .lst (vInts n0s)) (Same.refl H7) hSP
      have nSP : SP ≠ S := src_ne hS7 hSP
      have nD2 : D0 ≠ SP := ne_of_none eD hSP
      have n12 : s1 ≠ SP := ne_of_none e7 hSP
      have l0s : (vInts n0s).length = n0s.length := List.length_map ..
      refine ⟨_, rfl, S, _, rfl, src_same hS7 sS, by decide, by decide, fun m H8 hm hS8 hB8 _ => ⟨_, _, rfl, rfl, (1 + (m : Int)), rfl, by omega, by omega, for_it walk_range
        (fun j st H9 => ∃ (v7 v8 : Option V) (xs : List V), st = [some (.ref p), some (.int z), some (.ref S), some (.int (1 + (r : Int))), some (.ref D0), some (.ref pl), some (.ref SP), v7, v8, u9, u10, u11] ∧ SrcAt H9 S ∧ H9 s1 = some (.lst CUT) ∧ H9 D0 = some (.lst (vInts n0s)) ∧ H9 SP = some (.lst xs) ∧ xs.length = n0s.length ∧ (∀ x ∈ xs, WK S SP H9 x) ∧ (0 < j → ∃ x ∈ xs, byteV x = false))
        ⟨_, _, vInts n0s, rfl, hS8, hB8 _ _ (sS _ _ e7) n1, hB8 _ _ (sS _ _ eD) nD, hB8 _ _ upd_same nSP, l0s, (fun x hx => by
          obtain ⟨y, _, rfl⟩ := List.mem_map.mp hx
          trivial), fun h => absurd h (by decide)⟩ (fun _ _ _ _ _ => True.intro) ?_ ?_⟩⟩
      · rintro j x st H9 _ hj ⟨v7, v8, xs, rfl, hS9, e9, eD9, eS9, lx, hk, _⟩ ⟨rfl, rfl⟩
        refine ⟨_, rfl, by show 1 ≤ sizeLine; decide, fun q1 hq1 => ⟨_, _, rfl, rfl, ⟨by decide, by decide, by decide⟩, by show 7 ≤ sizeLine; decide, fun q2 hq2 => ?_⟩⟩
        have sq1 := same_new (o := .lst [.int 1]) (Same.refl _) hq1
        have sq2 := same_new (o := .lst [.int (-1), .int 256, .bl true, .non, .str "a", .ref q1, .int (10 ^ (30 : Int).toNat)]) sq1 hq2
        have nq1 : q1 ≠ S := src_ne hS9 hq1
        have nq1' : q1 ≠ SP := (ne_of_none eS9 hq1).symm
        have nq2 : q2 ≠ S := src_ne (src_same hS9 sq1) hq2
        have g1 := same_new (o := .lst [.int (-1), .int 256, .bl true, .non, .str "a", .ref q1, .int (10 ^ (30 : Int).toNat)]) (Same.refl _) hq2 q1 _ upd_same
        refine ⟨_, rfl, S, _, rfl, src_same hS9 sq2, by decide, by decide, fun r10 H10 hr10 hS10 hB10 _ => ?_⟩
        obtain ⟨v, hav, hbv, hkv⟩ := pick7 (T := SP) hr10 nq1 nq1' ⟨_, hB10 _ _ g1 nq1⟩
        refine ⟨q2, _, _, v, rfl, rfl, .inl (.inl (hB10 _ _ upd_same nq2)), hav, ?_⟩
        have t10 : ∀ b o, _ = some o → b ≠ S → H10 b = some o := fun b o e n => hB10 b o (sq2 _ _ e) n
        have eD10 := t10 _ _ eD9 nD
        refine ⟨_, rfl, _, rfl, _, rfl, _, rfl, D0, _, rfl, .inl (.inl (.inl eD10)), S, _, rfl, hS10, by rw [l0s]; omega, by rw [l0s]; omega, fun r11 H11 hr11 hS11 hB11 _ => ?_⟩
        rw [l0s] at hr11
        have eS11 := hB11 _ _ (t10 _ _ eS9 nSP) nSP
        have lr : r11 < xs.length := by omega
        refine ⟨SP, _, _, r11, rfl, rfl, eS11, ix_in lr, _, _, xs.set r11 v, rfl, src_put hS11 nSP, by rw [upd_ne n12]; exact hB11 _ _ (t10 _ _ e9 n1) n1, by rw [upd_ne nD2]; exact hB11 _ _ eD10 nD, upd_same, by rw [List.length_set, lx], fun x hx => ?_, fun _ => ⟨v, ?_, hbv⟩⟩
        · have tt : ∀ b o, H10 b = some o → b ≠ S → b ≠ SP → (upd H11 SP (.lst (xs.set r11 v))) b = some o := fun b o e n n' => by
            rw [upd_ne n']
            exact hB11 _ _ e n
          rcases List.mem_or_eq_of_mem_set hx with hx | rfl
          · exact ((hk x hx).go fun b o e n _ => t10 b o e n).go tt
          · exact hkv.go tt
        · exact List.mem_iff_getElem.mpr ⟨r11, by rw [List.length_set]; exact lr, List.getElem_set_self ..⟩
      · rintro st H9 ⟨v7, v8, xs, rfl, hS9, e9, eD9, eS9, lx, hk, hne⟩
        obtain ⟨x0, hx0, hb0⟩ := hne (by
          show 0 < (1 + (m : Int)).toNat
          omega)
        obtain ⟨i0, hi0⟩ : ∃ i, xs.findIdx? (fun x => !byteV x) = some i := by
          cases hq : xs.findIdx? (fun x => !byteV x) with
          | some i => exact ⟨i, rfl⟩
          | none =>
            have z := List.findIdx?_eq_none_iff.mp hq x0 hx0
            rw [hb0] at z
            cases z
        refine ⟨_, rfl, SP, xs, rfl, .inl (.inl eS9), fun DU hDU => lc_it (enL (K := K) (p := SP) (xs := xs)) (fun i H' => ∃ ds : List Nat, H' DU = some (.lst (vInts ds)) ∧ Same H9 H' ∧ ds.length ≤ i ∧ ds.head? = (xs.take i).findIdx? (fun x => !byteV x))
          ⟨[], upd_same, same_new (Same.refl H9) hDU, Nat.le_refl 0, rfl⟩ (fun i H' _ q => by
            obtain ⟨_, _, q, _⟩ := q
            exact .inl (.inl (q _ _ eS9))) ?_ ?_⟩
        · rintro i x Ha Hb hi ⟨ds, hds, sa, ld, hh⟩ ⟨T, y, rfl, hT, rfl, hy⟩
          have sT := same_new (o := .tup [.int (i : Nat), y]) (Same.refl Ha) hT
          have nT : DU ≠ T := ne_of_none hds hT
          have ky : Kd K (upd Ha T (.tup [.int (i : Nat), y])) y := ((hk y (List.mem_of_getElem? hy)).kd).mono (sa.trans sT)
          have htk : xs.take (i + 1) = xs.take i ++ [y] := by
            rw [List.take_add_one, hy]
            rfl
          have hfi : (xs.take (i + 1)).findIdx? (fun x => !byteV x) = (ds.head?).or ((([y] : List V).findIdx? (fun x => !byteV x)).map (· + i)) := by
            rw [htk, List.findIdx?_append, hh, List.length_take, Nat.min_eq_left (Nat.le_of_lt hi)]
          refine ⟨T, _, rfl, .inl (.inl upd_same), rfl, _, _, rfl, _, _, rfl, rfl, rfl, _, rfl, y, rfl, ky, _, rfl, ?_⟩
          cases hb : byteV y with
          | true =>
            refine iteF ⟨ds, sT _ _ hds, sa.trans sT, by omega, ?_⟩
            rw [hfi, List.findIdx?_cons, hb]
            cases ds <;> rfl
          | false =>
            refine iteT ⟨_, rfl, _, sT _ _ hds, ?_, ds ++ [i], by rw [upd_same, vInts_app]; rfl, fun b o e => ?_, ?_, ?_⟩
            · rw [List.length_map]
              exact Nat.lt_of_le_of_lt (by omega : _ ≤ 1001) (by decide)
            · rw [upd_ne (ne_of_none e hDU)]
              exact sT _ _ (sa _ _ e)
            · rw [List.length_append]
              exact Nat.add_le_add ld (Nat.le_refl 1)
            · rw [hfi, List.findIdx?_cons, hb]
              cases ds with
              | nil =>
                show some i = some (0 + i)
                rw [Nat.zero_add]
              | cons d0 dr => rfl
        · rintro Ha ⟨ds, hds, sa, ld, hh⟩
          rw [List.take_length, hi0] at hh
          obtain ⟨dr, rfl⟩ : ∃ dr, ds = i0 :: dr := by
            cases ds with
            | nil => cases hh
            | cons d0 dr => exact ⟨dr, by rw [Option.some.inj hh]⟩
          have at0 : atI (vInts (i0 :: dr)) 0 = some (.int (i0 : Nat)) := atI_nat (j := 0) rfl
          have ka : ∀ {Hx : Hp}, Same Ha Hx → ∀ x ∈ xs, Kd K Hx x := fun s x hx => ((hk x hx).kd).mono (sa.trans s)
          refine ⟨_, rfl, SP, xs, rfl, .inl (.inl (.inl (sa _ _ eS9))), ka (Same.refl Ha), fun i hi Hb sb => ?_, fun hn => absurd (hn.symm.trans hi0) (by simp)⟩
          obtain rfl : i = i0 := Option.some.inj (hi.symm.trans hi0)
          refine ⟨_, rfl, DU, _, 0, _, rfl, rfl, .inl (.inl (sb _ _ hds)), at0, _, _, .int _, .int _, shaped_int _, shaped_int _, _, rfl, neF ?_⟩
          refine ⟨_, rfl, SP, xs, rfl, .inl ⟨.inl (.inl (sb _ _ (sa _ _ eS9))), fun tq htq => ?_⟩⟩
          have st := same_new (o := .tup xs) (Same.refl Hb) htq
          refine ⟨tq, xs, rfl, .inr (.inl (.inl upd_same)), ka (sb.trans st), fun i' hi' Hc sc' => ?_, fun hn => absurd (hn.symm.trans hi0) (by simp)⟩
          obtain rfl : i' = i := Option.some.inj (hi'.symm.trans hi0)
          refine ⟨_, rfl, DU, _, 0, _, rfl, rfl, .inl (.inl (sc' _ _ (st _ _ (sb _ _ hds)))), at0, _, _, .int _, .int _, shaped_int _, shaped_int _, _, rfl, neF ?_⟩
          have ec : Hc s1 = some (.lst CUT) := sc' _ _ (st _ _ (sb _ _ (sa _ _ e9)))
          refine ⟨Nat.zero_le _, fun y1 hy1 => ⟨y1, [], rfl, .inl (.inl (.inl upd_same)), (fun x hx => nomatch hx), (fun i hi => by cases hi), fun _ => ⟨.inl (.inl upd_same), fun _ t1 Hd sd ht1 => ?_, fun h => absurd h (by decide)⟩⟩⟩
          have ed : Hd s1 = some (.lst CUT) := sd _ _ (same_new (Same.refl _) hy1 _ _ ec)
          refine ⟨by show 2 ≤ sizeLine; decide, fun t2 ht2 => ?_⟩
          have s2' := same_new (o := .tup [.str "short", .int 0]) (Same.refl Hd) ht2
          refine ⟨_, _, dp_pair (s2' _ _ ht1), dp_pair upd_same, shaped_pair (by decide +kernel), shaped_pair (by decide +kernel), _, rfl, pairF ?_⟩
          have ed2 := s2' _ _ ed
          revert ed2
          generalize upd Hd t2 (.tup [.str "short", .int 0]) = He
          intro ed2
          refine ⟨by show 1 ≤ sizeLine; decide, fun y2 hy2 => ⟨y2, 41, _, rfl, rfl, upd_same, by decide, by decide, by show 1 * 41 ≤ sizeLine; decide, fun y3 hy3 => ?_⟩⟩
          have ef := same_new (o := .lst (vz 41)) (same_new (o := .lst [.int 0]) (Same.refl He) hy2) hy3 _ _ ed2
          refine ⟨y3, vz 41, rfl, .inl (.inl (.inl upd_same)), vz_kd, fun i hi => absurd (hi.symm.trans vz41) (by simp), fun _ => ⟨.inl (.inl upd_same), fun _ t3 Hf sf ht3 => ?_, fun h => absurd h (by decide +kernel)⟩⟩
          refine ⟨by show 2 ≤ sizeLine; decide, fun t4 ht4 => ?_⟩
          have s4' := same_new (o := .tup [.str "short", .int 41]) (Same.refl Hf) ht4
          refine ⟨_, _, dp_pair (s4' _ _ ht3), dp_pair upd_same, shaped_pair (by decide +kernel), shaped_pair (by decide +kernel), _, rfl, pairF ?_⟩
          have eg := s4' _ _ (sf _ _ ef)
          revert eg
          generalize upd Hf t4 (.tup [.str "short", .int 41]) = Hg
          intro eg
          refine ⟨by show 1 ≤ sizeLine; decide, fun y4 hy4 => ⟨y4, 42, _, rfl, rfl, upd_same, by decide, by decide, by show 1 * 42 ≤ sizeLine; decide, fun y5 hy5 => ?_⟩⟩
          have eh := same_new (o := .lst (vz 42)) (same_new (o := .lst [.int 0]) (Same.refl Hg) hy4) hy5 _ _ eg
          refine ⟨y5, vz 42, rfl, .inl (.inl (.inl upd_same)), vz_kd, fun i hi => absurd (hi.symm.trans vz42) (by simp), fun _ => ⟨.inl (.inl upd_same), fun h => absurd h (by decide +kernel), fun _ => ⟨⟨0, rfl, by decide⟩, fun t5 Hh sh ht5 => ?_⟩⟩⟩
          refine ⟨by show 2 ≤ sizeLine; decide, fun t6 ht6 => ?_⟩
          have s6' := same_new (o := .tup [.str "header", .int 0]) (Same.refl Hh) ht6
          refine ⟨_, _, dp_pair (s6' _ _ ht5), dp_pair upd_same, shaped_pair (by decide +kernel), shaped_pair (by decide +kernel), _, rfl, pairF ?_⟩
          exact ⟨_, _, _, _, _, _, _, _, _, _, _, rfl, s6' _ _ (sh _ _ eh)⟩
    · rintro st H1 ⟨u1, u2, u3, u4, u5, u6, u7, u8, u9, u10, u11, rfl, h1⟩
      exact k H1
end
end G58

set_option Elab.async false
set_option linter.all false
set_option maxRecDepth 100000
set_option maxHeartbeats 8000000
/-! k19: what the top has written. -/
namespace G58
open PySem PySem.Spec PyProof.Rows L2 LamX
theorem exm_sub {K : PySem.W.Frag} {E S : Addr} {b : Bool} (h1 : PySem.W.subIn K (.ref S) (.type "BaseException") = some true) (h2 : PySem.W.isClsIn K S = true) (h3 : PySem.W.typeIn K (.ref S) = some (.type "type")) (h4 : PySem.W.subIn K (.ref E) (.ref S) = some b) :
    PySem.W.exmOne K (.ref E) (.ref S) = some b := by
  have q2 : ((PySem.W.clsIn K S).isSome && PySem.W.typeIn K (.ref S) == some (.type "type")) = true := by
    have z : (PySem.W.clsIn K S).isSome = true := h2
    rw [z, h3]
    rfl
  have q1 : (PySem.W.subIn K (.ref S) (.type "BaseException") == some true) = true := by
    rw [h1]
    rfl
  show (if (PySem.W.subIn K (.ref S) (.type "BaseException") == some true) = true then (if ((PySem.W.clsIn K S).isSome && PySem.W.typeIn K (.ref S) == some (.type "type")) = true then PySem.W.subIn K (.ref E) (.ref S) else none) else none) = some b
  rw [if_pos q1, if_pos q2]
  exact h4
theorem all_mk {l : PySem.W.OpenLaw} {w : World} {K : PySem.W.Frag} {h : Heap} {mg : Str → Option Value} {fa cB cR cN : Addr} (X : K.In h) (G : h.Ns mainGlobals mg) (hfa : mg "law" = some (.ref fa))
    {f_ib : Addr} {od_ib an_ib : Option Addr} {sl_ib : Array (Option Value)} {oc_ib kV_ib dc_ib pm_ib ct_ib cd_ib : Value}
    {f_ir : Addr} {od_ir an_ir : Option Addr} {sl_ir : Array (Option Value)} {oc_ir kV_ir dc_ir pm_ir ct_ir cd_ir : Value}
    {f_in : Addr} {od_in an_in : Option Addr} {sl_in : Array (Option Value)} {oc_in kV_in dc_in pm_in ct_in cd_in : Value}
    {f_bt : Addr} {od_bt an_bt : Option Addr} {sl_bt : Array (Option Value)} {oc_bt kV_bt dc_bt pm_bt ct_bt cd_bt : Value}
    {f_ch : Addr} {od_ch an_ch : Option Addr} {sl_ch : Array (Option Value)} {oc_ch kV_ch dc_ch pm_ch ct_ch cd_ch : Value}
    {f_fr : Addr} {od_fr an_fr : Option Addr} {sl_fr : Array (Option Value)} {oc_fr kV_fr dc_fr pm_fr ct_fr cd_fr : Value}
    {f_rd : Addr} {od_rd an_rd : Option Addr} {sl_rd : Array (Option Value)} {oc_rd kV_rd dc_rd pm_rd ct_rd cd_rd : Value}
    {f_st : Addr} {od_st an_st : Option Addr} {sl_st : Array (Option Value)} {oc_st kV_st dc_st pm_st ct_st cd_st : Value}
    {f_dg : Addr} {od_dg an_dg : Option Addr} {sl_dg : Array (Option Value)} {oc_dg kV_dg dc_dg pm_dg ct_dg cd_dg : Value}
    {f_ot : Addr} {od_ot an_ot : Option Addr} {sl_ot : Array (Option Value)} {oc_ot kV_ot dc_ot pm_ot ct_ot cd_ot : Value}
    {f_sh : Addr} {od_sh an_sh : Option Addr} {sl_sh : Array (Option Value)} {oc_sh kV_sh dc_sh pm_sh ct_sh cd_sh : Value}
    {f_lf : Addr} {od_lf an_lf : Option Addr} {sl_lf : Array (Option Value)} {oc_lf kV_lf dc_lf pm_lf ct_lf cd_lf : Value}
    {f_bo : Addr} {od_bo an_bo : Option Addr} {sl_bo : Array (Option Value)} {oc_bo kV_bo dc_bo pm_bo ct_bo cd_bo : Value}
    {f_as : Addr} {od_as an_as : Option Addr} {sl_as : Array (Option Value)} {oc_as kV_as dc_as pm_as ct_as cd_as : Value}
    {f_ix : Addr} {od_ix an_ix : Option Addr} {sl_ix : Array (Option Value)} {oc_ix kV_ix dc_ix pm_ix ct_ix cd_ix : Value}
    {f_sd : Addr} {od_sd an_sd : Option Addr} {sl_sd : Array (Option Value)} {oc_sd kV_sd dc_sd pm_sd ct_sd cd_sd : Value}
    {f_lw : Addr} {od_lw an_lw : Option Addr} {sl_lw : Array (Option Value)} {oc_lw kV_lw dc_lw pm_lw ct_lw cd_lw : Value}
    {nm_cB qn_cB : Str} {N_cB : Addr} {bs_cB : List Value} {sn_cB : List Str} {sub_cB : List Value} {ab_cB : Bool} {col_cB : Option Bool} {dd_cB : Option Addr} {m0_cB m1_cB m2_cB m3_cB m5_cB : Option Value} {bm_cB : List Value}
    {nm_cR qn_cR : Str} {N_cR : Addr} {bs_cR : List Value} {sn_cR : List Str} {sub_cR : List Value} {ab_cR : Bool} {col_cR : Option Bool} {dd_cR : Option Addr} {m0_cR m1_cR m2_cR m3_cR m5_cR : Option Value} {bm_cR : List Value}
    {tL t0 t1 t2 t3 t4 t5 t6 t7 : Tok} {aH : Addr} {dH : Option Addr} {nH : Nat} {slH : Array (Option Value)}
    (aC_cB : PySem.W.nsIn K mainGlobals "NoBytes" = some (some (.ref cB)))
    (xL_cB : K.lookup cB = some (excClassObj nm_cB qn_cB cB N_cB bs_cB bm_cB true sn_cB sub_cB ab_cB col_cB dd_cB m0_cB m1_cB m2_cB m3_cB m5_cB "ValueError.__new__"))
    (xv_cB : PySem.HandSPX.refsVE bm_cB = true)
    (sa_cB : PySem.W.findIn K (.ref cB) "__setattr__" = some (some (.builtin "object.__setattr__")))
    (ga_cB : PySem.W.findIn K (.ref cB) "__getattribute__" = some (some (.builtin "BaseException.__getattribute__")))
    (gg_cB : PySem.W.findIn K (.ref cB) "__getattr__" = some none)
    (no_cB : PySem.W.findIn K (.ref cB) "place" = some none)
    (hd_cB : PySem.W.hasDictIn K cB = true)
    (kC_cB : PySem.W.keepIn K (.ref cB) = true)
    (eC_cB : PySem.W.subIn K (.ref cB) (.type "BaseException") = some true)
    (tC_cB : PySem.W.typeIn K (.ref cB) = some (.type "type"))
    (iC_cB : PySem.W.isClsIn K cB = true)
    (aC_cR : PySem.W.nsIn K mainGlobals "Torn" = some (some (.ref cR)))
    (xL_cR : K.lookup cR = some (excClassObj nm_cR qn_cR cR N_cR bs_cR bm_cR true sn_cR sub_cR ab_cR col_cR dd_cR m0_cR m1_cR m2_cR m3_cR m5_cR "ValueError.__new__"))
    (xv_cR : PySem.HandSPX.refsVE bm_cR = true)
    (sa_cR : PySem.W.findIn K (.ref cR) "__setattr__" = some (some (.builtin "object.__setattr__")))
    (ga_cR : PySem.W.findIn K (.ref cR) "__getattribute__" = some (some (.builtin "BaseException.__getattribute__")))
    (gg_cR : PySem.W.findIn K (.ref cR) "__getattr__" = some none)
    (no_cR : PySem.W.findIn K (.ref cR) "place" = some none)
    (nw_cR : PySem.W.findIn K (.ref cR) "word" = some none)
    (hd_cR : PySem.W.hasDictIn K cR = true)
    (kC_cR : PySem.W.keepIn K (.ref cR) = true)
    (eC_cR : PySem.W.subIn K (.ref cR) (.type "BaseException") = some true)
    (tC_cR : PySem.W.typeIn K (.ref cR) = some (.type "type"))
    (iC_cR : PySem.W.isClsIn K cR = true)
    (aC_cN : PySem.W.nsIn K mainGlobals "NestError" = some (some (.ref cN)))
    (s_bb : PySem.W.subIn K (.ref cB) (.ref cB) = some true)
    (s_rb : PySem.W.subIn K (.ref cR) (.ref cB) = some false)
    (s_rr : PySem.W.subIn K (.ref cR) (.ref cR) = some true)
    (a_ib : PySem.W.findIn K (.ref cB) "__init__" = some (some (.ref f_ib)))
    (t_ib : PySem.W.typeIn K (.ref f_ib) = some (.type "function"))
    (l_ib : K.lookup f_ib = some ⟨oc_ib, od_ib, .func (PySem.W.fnOf "__init__" "NoBytes.__init__" (defArgs sInitB) (defBody sInitB) (defScope sInitB) .none kV_ib dc_ib pm_ib an_ib cd_ib ct_ib), sl_ib⟩)
    (c_ib : PySem.W.codeIn K cd_ib "NoBytes.__init__" = true)
    (k_ib : PySem.W.keepIn K (.ref f_ib) = true)
    (a_ir : PySem.W.findIn K (.ref cR) "__init__" = some (some (.ref f_ir)))
    (t_ir : PySem.W.typeIn K (.ref f_ir) = some (.type "function"))
    (l_ir : K.lookup f_ir = some ⟨oc_ir, od_ir, .func (PySem.W.fnOf "__init__" "Torn.__init__" (defArgs sInitR) (defBody sInitR) (defScope sInitR) .none kV_ir dc_ir pm_ir an_ir cd_ir ct_ir), sl_ir⟩)
    (c_ir : PySem.W.codeIn K cd_ir "Torn.__init__" = true)
    (k_ir : PySem.W.keepIn K (.ref f_ir) = true)
    (a_in : PySem.W.nsIn K mainGlobals "is_integer" = some (some (.ref f_in)))
    (l_in : K.lookup f_in = some ⟨oc_in, od_in, .func (PySem.W.fnOf "is_integer" "is_integer" (defArgs sInt) (defBody sInt) (defScope sInt) .none kV_in dc_in pm_in an_in cd_in ct_in), sl_in⟩)
    (c_in : PySem.W.codeIn K cd_in "is_integer" = true)
    (k_in : PySem.W.keepIn K (.ref f_in) = true)
    (a_bt : PySem.W.nsIn K mainGlobals "is_between" = some (some (.ref f_bt)))
    (l_bt : K.lookup f_bt = some ⟨oc_bt, od_bt, .func (PySem.W.fnOf "is_between" "is_between" (defArgs sBtw) (defBody sBtw) (defScope sBtw) .none kV_bt dc_bt pm_bt an_bt cd_bt ct_bt), sl_bt⟩)
    (c_bt : PySem.W.codeIn K cd_bt "is_between" = true)
    (k_bt : PySem.W.keepIn K (.ref f_bt) = true)
    (a_ch : PySem.W.nsIn K mainGlobals "check_bytes" = some (some (.ref f_ch)))
    (l_ch : K.lookup f_ch = some ⟨oc_ch, od_ch, .func (PySem.W.fnOf "check_bytes" "check_bytes" (defArgs sChk) (defBody sChk) (defScope sChk) .none kV_ch dc_ch pm_ch an_ch cd_ch ct_ch), sl_ch⟩)
    (c_ch : PySem.W.codeIn K cd_ch "check_bytes" = true)
    (k_ch : PySem.W.keepIn K (.ref f_ch) = true)
    (a_fr : PySem.W.nsIn K mainGlobals "check_frame" = some (some (.ref f_fr)))
    (l_fr : K.lookup f_fr = some ⟨oc_fr, od_fr, .func (PySem.W.fnOf "check_frame" "check_frame" (defArgs sFrm) (defBody sFrm) (defScope sFrm) .none kV_fr dc_fr pm_fr an_fr cd_fr ct_fr), sl_fr⟩)
    (c_fr : PySem.W.codeIn K cd_fr "check_frame" = true)
    (k_fr : PySem.W.keepIn K (.ref f_fr) = true)
    (a_rd : PySem.W.nsIn K mainGlobals "read" = some (some (.ref f_rd)))
    (l_rd : K.lookup f_rd = some ⟨oc_rd, od_rd, .func (PySem.W.fnOf "read" "read" (defArgs sRead) (defBody sRead) (defScope sRead) .none kV_rd dc_rd pm_rd an_rd cd_rd ct_rd), sl_rd⟩)
    (c_rd : PySem.W.codeIn K cd_rd "read" = true)
    (k_rd : PySem.W.keepIn K (.ref f_rd) = true)
    (a_st : PySem.W.nsIn K mainGlobals "_law_state" = some (some (.ref f_st)))
    (l_st : K.lookup f_st = some ⟨oc_st, od_st, .func (PySem.W.fnOf "_law_state" "_law_state" (defArgs sSta) (defBody sSta) (defScope sSta) .none kV_st dc_st pm_st an_st cd_st ct_st), sl_st⟩)
    (c_st : PySem.W.codeIn K cd_st "_law_state" = true)
    (k_st : PySem.W.keepIn K (.ref f_st) = true)
    (a_dg : PySem.W.nsIn K mainGlobals "_law_digit" = some (some (.ref f_dg)))
    (l_dg : K.lookup f_dg = some ⟨oc_dg, od_dg, .func (PySem.W.fnOf "_law_digit" "_law_digit" (defArgs sDig) (defBody sDig) (defScope sDig) .none kV_dg dc_dg pm_dg an_dg cd_dg ct_dg), sl_dg⟩)
    (c_dg : PySem.W.codeIn K cd_dg "_law_digit" = true)
    (k_dg : PySem.W.keepIn K (.ref f_dg) = true)
    (a_ot : PySem.W.nsIn K mainGlobals "_law_octets" = some (some (.ref f_ot)))
    (l_ot : K.lookup f_ot = some ⟨oc_ot, od_ot, .func (PySem.W.fnOf "_law_octets" "_law_octets" (defArgs sOct) (defBody sOct) (defScope sOct) .none kV_ot dc_ot pm_ot an_ot cd_ot ct_ot), sl_ot⟩)
    (c_ot : PySem.W.codeIn K cd_ot "_law_octets" = true)
    (k_ot : PySem.W.keepIn K (.ref f_ot) = true)
    (a_sh : PySem.W.nsIn K mainGlobals "_law_shuffled" = some (some (.ref f_sh)))
    (l_sh : K.lookup f_sh = some ⟨oc_sh, od_sh, .func (PySem.W.fnOf "_law_shuffled" "_law_shuffled" (defArgs sShu) (defBody sShu) (defScope sShu) .none kV_sh dc_sh pm_sh an_sh cd_sh ct_sh), sl_sh⟩)
    (c_sh : PySem.W.codeIn K cd_sh "_law_shuffled" = true)
    (k_sh : PySem.W.keepIn K (.ref f_sh) = true)
    (a_lf : PySem.W.nsIn K mainGlobals "_law_leaf" = some (some (.ref f_lf)))
    (l_lf : K.lookup f_lf = some ⟨oc_lf, od_lf, .func (PySem.W.fnOf "_law_leaf" "_law_leaf" (defArgs sLeaf) (defBody sLeaf) (defScope sLeaf) .none kV_lf dc_lf pm_lf an_lf cd_lf ct_lf), sl_lf⟩)
    (c_lf : PySem.W.codeIn K cd_lf "_law_leaf" = true)
    (k_lf : PySem.W.keepIn K (.ref f_lf) = true)
    (a_bo : PySem.W.nsIn K mainGlobals "_law_bodies" = some (some (.ref f_bo)))
    (l_bo : K.lookup f_bo = some ⟨oc_bo, od_bo, .func (PySem.W.fnOf "_law_bodies" "_law_bodies" (defArgs sBod) (defBody sBod) (defScope sBod) .none kV_bo dc_bo pm_bo an_bo cd_bo ct_bo), sl_bo⟩)
    (c_bo : PySem.W.codeIn K cd_bo "_law_bodies" = true)
    (k_bo : PySem.W.keepIn K (.ref f_bo) = true)
    (a_as : PySem.W.nsIn K mainGlobals "_law_assembled" = some (some (.ref f_as)))
    (l_as : K.lookup f_as = some ⟨oc_as, od_as, .func (PySem.W.fnOf "_law_assembled" "_law_assembled" (defArgs sAss) (defBody sAss) (defScope sAss) .none kV_as dc_as pm_as an_as cd_as ct_as), sl_as⟩)
    (c_as : PySem.W.codeIn K cd_as "_law_assembled" = true)
    (k_as : PySem.W.keepIn K (.ref f_as) = true)
    (a_ix : PySem.W.nsIn K mainGlobals "_law_is_byte" = some (some (.ref f_ix)))
    (l_ix : K.lookup f_ix = some ⟨oc_ix, od_ix, .func (PySem.W.fnOf "_law_is_byte" "_law_is_byte" (defArgs sIsb) (defBody sIsb) (defScope sIsb) .none kV_ix dc_ix pm_ix an_ix cd_ix ct_ix), sl_ix⟩)
    (c_ix : PySem.W.codeIn K cd_ix "_law_is_byte" = true)
    (k_ix : PySem.W.keepIn K (.ref f_ix) = true)
    (a_sd : PySem.W.nsIn K mainGlobals "_law_said" = some (some (.ref f_sd)))
    (l_sd : K.lookup f_sd = some ⟨oc_sd, od_sd, .func (PySem.W.fnOf "_law_said" "_law_said" (defArgs sSaid) (defBody sSaid) (defScope sSaid) .none kV_sd dc_sd pm_sd an_sd cd_sd ct_sd), sl_sd⟩)
    (c_sd : PySem.W.codeIn K cd_sd "_law_said" = true)
    (k_sd : PySem.W.keepIn K (.ref f_sd) = true)
    (a_lw : PySem.W.nsIn K mainGlobals "law" = some (some (.ref f_lw)))
    (l_lw : K.lookup f_lw = some ⟨oc_lw, od_lw, .func (PySem.W.fnOf "law" "law" (defArgs sLaw) (defBody sLaw) (defScope sLaw) .none kV_lw dc_lw pm_lw an_lw cd_lw ct_lw), sl_lw⟩)
    (c_lw : PySem.W.codeIn K cd_lw "law" = true)
    (k_lw : PySem.W.keepIn K (.ref f_lw) = true)
    (z_isinstance : PySem.W.nsIn K mainGlobals "isinstance" = some none)
    (z_int : PySem.W.nsIn K mainGlobals "int" = some none)
    (z_bool : PySem.W.nsIn K mainGlobals "bool" = some none)
    (z_enumerate : PySem.W.nsIn K mainGlobals "enumerate" = some none)
    (z_len : PySem.W.nsIn K mainGlobals "len" = some none)
    (z_abs : PySem.W.nsIn K mainGlobals "abs" = some none)
    (z_range : PySem.W.nsIn K mainGlobals "range" = some none)
    (z_list : PySem.W.nsIn K mainGlobals "list" = some none)
    (z_tuple : PySem.W.nsIn K mainGlobals "tuple" = some none)
    (lL : PySem.W.nsIn K mainGlobals "LEAST_LENGTH" = some (some (.int 42 tL)))
    (aHd : PySem.W.nsIn K mainGlobals "HEADER" = some (some (.ref aH)))
    (lHd : K.lookup aH = some ⟨.type "tuple", dH, .seq #[.int 98 t0, .int 112 t1, .int 108 t2, .int 105 t3, .int 115 t4, .int 116 t5, .int 48 t6, .int 48 t7] nH, slH⟩) :
    LawAtS l w K CX0 6 63 "_law_script" mg fa h := by
  have e := hfa.symm.trans (PySem.W.mg_of X G a_lw)
  cases e
  have F_ib := fun_mk (st := sInitB) l_ib c_ib k_ib
  have b_ib := F_ib.binds (ps := ["self", "place"]) fun _ _ _ _ _ _ us hl => match us, hl with | [_, _], _ => rfl
  have F_ir := fun_mk (st := sInitR) l_ir c_ir k_ir
  have b_ir := F_ir.binds (ps := ["self", "word", "place"]) fun _ _ _ _ _ _ us hl => match us, hl with | [_, _, _], _ => rfl
  have F_in := fun_mk (st := sInt) l_in c_in k_in
  have b_in := F_in.binds (ps := ["thing"]) fun _ _ _ _ _ _ us hl => match us, hl with | [_], _ => rfl
  have F_bt := fun_mk (st := sBtw) l_bt c_bt k_bt
  have b_bt := F_bt.binds (ps := ["thing", "least", "most"]) fun _ _ _ _ _ _ us hl => match us, hl with | [_, _, _], _ => rfl
  have F_ch := fun_mk (st := sChk) l_ch c_ch k_ch
  have b_ch := F_ch.binds (ps := ["data"]) fun _ _ _ _ _ _ us hl => match us, hl with | [_], _ => rfl
  have F_fr := fun_mk (st := sFrm) l_fr c_fr k_fr
  have b_fr := F_fr.binds (ps := ["data"]) fun _ _ _ _ _ _ us hl => match us, hl with | [_], _ => rfl
  have F_rd := fun_mk (st := sRead) l_rd c_rd k_rd
  have b_rd := F_rd.binds (ps := ["data"]) fun _ _ _ _ _ _ us hl => match us, hl with | [_], _ => rfl
  have F_st := fun_mk (st := sSta) l_st c_st k_st
  have b_st := F_st.binds (ps := ["_law_source"]) fun _ _ _ _ _ _ us hl => match us, hl with | [_], _ => rfl
  have F_dg := fun_mk (st := sDig) l_dg c_dg k_dg
  have b_dg := F_dg.binds (ps := ["_law_state_here", "_law_base"]) fun _ _ _ _ _ _ us hl => match us, hl with | [_, _], _ => rfl
  have F_ot := fun_mk (st := sOct) l_ot c_ot k_ot
  have b_ot := F_ot.binds (ps := ["_law_number", "_law_count"]) fun _ _ _ _ _ _ us hl => match us, hl with | [_, _], _ => rfl
  have F_sh := fun_mk (st := sShu) l_sh c_sh k_sh
  have b_sh := F_sh.binds (ps := ["_law_s", "_law_items"]) fun _ _ _ _ _ _ us hl => match us, hl with | [_, _], _ => rfl
  have F_lf := fun_mk (st := sLeaf) l_lf c_lf k_lf
  have b_lf := F_lf.binds (ps := ["_law_s"]) fun _ _ _ _ _ _ us hl => match us, hl with | [_], _ => rfl
  have F_bo := fun_mk (st := sBod) l_bo c_bo k_bo
  have b_bo := F_bo.binds (ps := ["_law_s", "_law_width"]) fun _ _ _ _ _ _ us hl => match us, hl with | [_, _], _ => rfl
  have F_as := fun_mk (st := sAss) l_as c_as k_as
  have b_as := F_as.binds (ps := ["_law_s", "_law_bodies_here", "_law_width"]) fun _ _ _ _ _ _ us hl => match us, hl with | [_, _, _], _ => rfl
  have F_ix := fun_mk (st := sIsb) l_ix c_ix k_ix
  have b_ix := F_ix.binds (ps := ["_law_one"]) fun _ _ _ _ _ _ us hl => match us, hl with | [_], _ => rfl
  have F_sd := fun_mk (st := sSaid) l_sd c_sd k_sd
  have b_sd := F_sd.binds (ps := ["_law_data"]) fun _ _ _ _ _ _ us hl => match us, hl with | [_], _ => rfl
  have F_lw := fun_mk (st := sLaw) l_lw c_lw k_lw
  have M := fun {n : Str} {v : Value} (q : PySem.W.nsIn K mainGlobals n = some (some v)) => PySem.W.mg_of X G q
  have M0 := fun {n : Str} (q : PySem.W.nsIn K mainGlobals n = some none) => PySem.W.mg_none_of X G q
  let a : Ad := ⟨cN, cB, cR, f_ib, f_ir, f_in, f_bt, f_ch, f_fr, f_rd, aH⟩
  let ld : Ld := ⟨f_st, f_dg, f_ot, f_sh, f_lf, f_bo, f_as, f_ix, f_sd⟩
  have xB : ExC K cB f_ib := ⟨⟨⟨nm_cB, qn_cB, N_cB, bs_cB, bm_cB, sn_cB, sub_cB, ab_cB, col_cB, dd_cB, m0_cB, m1_cB, m2_cB, m3_cB, m5_cB, xL_cB, xv_cB⟩, sa_cB, eC_cB, tC_cB, kC_cB⟩, ⟨ga_cB, gg_cB, eC_cB, hd_cB⟩, a_ib, t_ib⟩
  have xR : ExC K cR f_ir := ⟨⟨⟨nm_cR, qn_cR, N_cR, bs_cR, bm_cR, sn_cR, sub_cR, ab_cR, col_cR, dd_cR, m0_cR, m1_cR, m2_cR, m3_cR, m5_cR, xL_cR, xv_cR⟩, sa_cR, eC_cR, tC_cR, kC_cR⟩, ⟨ga_cR, gg_cR, eC_cR, hd_cR⟩, a_ir, t_ir⟩
  have hdT : ∀ H, SqT K H aH hdr := fun H => .inr ⟨_, _, _, lHd, rfl, rfl, by show 8 ≤ sizeLine; decide, (.cons ⟨_, rfl⟩ (.cons ⟨_, rfl⟩ (.cons ⟨_, rfl⟩ (.cons ⟨_, rfl⟩ (.cons ⟨_, rfl⟩ (.cons ⟨_, rfl⟩ (.cons ⟨_, rfl⟩ (.cons ⟨_, rfl⟩ .nil))))))))⟩
  have T : Txt K mg a := ⟨xB, no_cB, xR, no_cR, nw_cR, M aC_cN, M aC_cB, M aC_cR, M a_in, M a_bt, M a_ch, M a_fr, M a_rd, ⟨tL, M lL⟩, M aHd, hdT, M0 z_isinstance, M0 z_int, M0 z_bool, M0 z_enumerate, M0 z_len⟩
  have L : LTx mg ld := ⟨M a_st, M a_dg, M a_ot, M a_sh, M a_lf, M a_bo, M a_as, M a_ix, M a_sd, M0 z_abs, M0 z_int, M0 z_bool, M0 z_len, M0 z_range, M0 z_list, M0 z_tuple, M0 z_isinstance, M0 z_enumerate⟩
  have xm : Exm K a := ⟨exm_sub eC_cB iC_cB tC_cB s_bb, exm_sub eC_cB iC_cB tC_cB s_rb, exm_sub eC_cR iC_cR tC_cR s_rr⟩
  refine ⟨PySem.W.fnOf "law" "law" (defArgs sLaw) (defBody sLaw) (defScope sLaw) .none kV_lw dc_lw pm_lw an_lw cd_lw ct_lw, [], spLaw K, (fun p hp => nomatch hp), (fun p hp => nomatch hp), (fun p hp => nomatch hp), fun s v => .of_eq rfl, fun H p ns hl _ _ hS => ⟨p, ns, rfl, hS, hl, fun _ => rfl⟩, fun base _ _ _ => ?_⟩
  have GC : FnOk l.prog w K mg base (L2.CX l.prog w) 3 f_ch _ ["data"] (spChk K cB) := ok_chk (a := a) F_ch T F_in b_in F_bt b_bt F_ib b_ib
  have GF : FnOk l.prog w K mg base (L2.CX l.prog w) 3 f_fr _ ["data"] (spFrm K cR) := ok_frm (a := a) F_fr T F_ir b_ir
  have GR : FnOk l.prog w K mg base (L2.CX l.prog w) 4 f_rd _ ["data"] (spRead K a) := ok_read (a := a) F_rd T F_ch b_ch GC F_fr b_fr GF
  have GS : FnOk l.prog w K mg base CX0 5 f_sd _ ["_law_data"] (spSaid K) := ok_said (a := a) F_sd T xm k_rd b_rd GR
  have GB : FnOk l.prog w K mg base CX0 3 f_bo _ ["_law_s", "_law_width"] spBod := ok_bod (l := ld) F_bo L F_dg b_dg F_ot b_ot F_sh b_sh F_lf b_lf
  have GA : FnOk l.prog w K mg base CX0 3 f_as _ ["_law_s", "_law_bodies_here", "_law_width"] spAss := ok_ass (l := ld) F_as L F_dg b_dg F_ot b_ot F_sh b_sh
  exact ok_law (l := ld) F_lw L F_st b_st F_dg b_dg F_ix b_ix F_bo b_bo GB F_as b_as GA F_sd b_sd GS
end G58

set_option Elab.async false
set_option linter.all false
set_option maxRecDepth 100000
set_option maxHeartbeats 8000000
open PySem PySem.W PyProof.Rows
set_option maxRecDepth 100000 in
set_option maxHeartbeats 0 in
theorem PySem.Challenge.cw_nestfile_k19_elements_that_are_no_bytes_holds : PySem.Challenge.rw_nestfile_k19_elements_that_are_no_bytes.Holds := by
  w_on; o_law; k_head; (case hw => w_witness2)
  k_fill
  first
    | refine LamX.walk_ofTs (l := PySem.Challenge.rw_nestfile_k19_elements_that_are_no_bytes) (n := 63) (k := 6) (x := "_law_script") (CX := fun _ => L2.CX0) rfl (by decide) rfl ⟨rfl, by decide, by decide⟩ (fun w h Y => PySem.W.kIn_of Y) ?F (fun _ _ _ _ _ z => z)
    | refine LamX.walk_ofTs (l := PySem.Challenge.rw_nestfile_k19_elements_that_are_no_bytes) (n := 63) (k := 6) (x := "_law_script") (CX := fun _ => L2.CX0) rfl (by decide) rfl ⟨rfl, by decide, by decide⟩ (fun w h Y => PySem.W.km_in_of Y) ?F (fun _ _ _ _ _ z => z)
  case F =>
    intro w mg fa h Y KX G hmg
    refine' G58.all_mk KX G hmg ?aC_cB ?xL_cB ?xv_cB ?sa_cB ?ga_cB ?gg_cB ?no_cB ?hd_cB ?kC_cB ?eC_cB ?tC_cB ?iC_cB ?aC_cR ?xL_cR ?xv_cR ?sa_cR ?ga_cR ?gg_cR ?no_cR ?nw_cR ?hd_cR ?kC_cR ?eC_cR ?tC_cR ?iC_cR ?aC_cN ?s_bb ?s_rb ?s_rr ?a_ib ?t_ib ?l_ib ?c_ib ?k_ib ?a_ir ?t_ir ?l_ir ?c_ir ?k_ir ?a_in ?l_in ?c_in ?k_in ?a_bt ?l_bt ?c_bt ?k_bt ?a_ch ?l_ch ?c_ch ?k_ch ?a_fr ?l_fr ?c_fr ?k_fr ?a_rd ?l_rd ?c_rd ?k_rd ?a_st ?l_st ?c_st ?k_st ?a_dg ?l_dg ?c_dg ?k_dg ?a_ot ?l_ot ?c_ot ?k_ot ?a_sh ?l_sh ?c_sh ?k_sh ?a_lf ?l_lf ?c_lf ?k_lf ?a_bo ?l_bo ?c_bo ?k_bo ?a_as ?l_as ?c_as ?k_as ?a_ix ?l_ix ?c_ix ?k_ix ?a_sd ?l_sd ?c_sd ?k_sd ?a_lw ?l_lw ?c_lw ?k_lw ?z_isinstance ?z_int ?z_bool ?z_enumerate ?z_len ?z_abs ?z_range ?z_list ?z_tuple ?lL ?aHd ?lHd
    (case aC_cB => k_is)
    (case xL_cB => k_is)
    (case xv_cB => decide +kernel)
    (case sa_cB => k_is)
    (case ga_cB => k_is)
    (case gg_cB => k_is)
    (case no_cB => k_is)
    (case hd_cB => k_is)
    (case kC_cB => k_is)
    (case eC_cB => k_is)
    (case tC_cB => k_is)
    (case iC_cB => k_is)
    (case aC_cR => k_is)
    (case xL_cR => k_is)
    (case xv_cR => decide +kernel)
    (case sa_cR => k_is)
    (case ga_cR => k_is)
    (case gg_cR => k_is)
    (case no_cR => k_is)
    (case nw_cR => k_is)
    (case hd_cR => k_is)
    (case kC_cR => k_is)
    (case eC_cR => k_is)
    (case tC_cR => k_is)
    (case iC_cR => k_is)
    (case aC_cN => k_is)
    (case s_bb => first | rfl | k_is)
    (case s_rb => k_is)
    (case s_rr => first | rfl | k_is)
    (case a_ib => k_is)
    (case t_ib => k_is)
    (case l_ib => k_is)
    (case c_ib => k_is)
    (case k_ib => k_is)
    (case a_ir => k_is)
    (case t_ir => k_is)
    (case l_ir => k_is)
    (case c_ir => k_is)
    (case k_ir => k_is)
    (case a_in => k_is)
    (case l_in => k_is)
    (case c_in => k_is)
    (case k_in => k_is)
    (case a_bt => k_is)
    (case l_bt => k_is)
    (case c_bt => k_is)
    (case k_bt => k_is)
    (case a_ch => k_is)
    (case l_ch => k_is)
    (case c_ch => k_is)
    (case k_ch => k_is)
    (case a_fr => k_is)
    (case l_fr => k_is)
    (case c_fr => k_is)
    (case k_fr => k_is)
    (case a_rd => k_is)
    (case l_rd => k_is)
    (case c_rd => k_is)
    (case k_rd => k_is)
    (case a_st => k_is)
    (case l_st => k_is)
    (case c_st => k_is)
    (case k_st => k_is)
    (case a_dg => k_is)
    (case l_dg => k_is)
    (case c_dg => k_is)
    (case k_dg => k_is)
    (case a_ot => k_is)
    (case l_ot => k_is)
    (case c_ot => k_is)
    (case k_ot => k_is)
    (case a_sh => k_is)
    (case l_sh => k_is)
    (case c_sh => k_is)
    (case k_sh => k_is)
    (case a_lf => k_is)
    (case l_lf => k_is)
    (case c_lf => k_is)
    (case k_lf => k_is)
    (case a_bo => k_is)
    (case l_bo => k_is)
    (case c_bo => k_is)
    (case k_bo => k_is)
    (case a_as => k_is)
    (case l_as => k_is)
    (case c_as => k_is)
    (case k_as => k_is)
    (case a_ix => k_is)
    (case l_ix => k_is)
    (case c_ix => k_is)
    (case k_ix => k_is)
    (case a_sd => k_is)
    (case l_sd => k_is)
    (case c_sd => k_is)
    (case k_sd => k_is)
    (case a_lw => k_is)
    (case l_lw => k_is)
    (case c_lw => k_is)
    (case k_lw => k_is)
    (case z_isinstance => k_is)
    (case z_int => k_is)
    (case z_bool => k_is)
    (case z_enumerate => k_is)
    (case z_len => k_is)
    (case z_abs => k_is)
    (case z_range => k_is)
    (case z_list => k_is)
    (case z_tuple => k_is)
    (case lL => k_is)
    (case aHd => k_is)
    (case lHd => k_is)
#print axioms PySem.Challenge.cw_nestfile_k19_elements_that_are_no_bytes_holds
