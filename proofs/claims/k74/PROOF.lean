import PyProof.Rows.All
import Wide.All
import OpenK.AllK
import Wide.FinOn
import KE.GoesNew
import HandS.ForMost
import HandS.ForExc
import HandS.Walk
import HandS.IsInst
import HandS.Lambda
import HandS.EndTab
import HandS.ExcInit
import HandS.ExcField
import HandS.StrMore
import HandS.Zip
import HandS.Replace
import PySem.Challenge.RW_nestfile_k74_bytes_as_texts
set_option Elab.async false
set_option linter.all false
set_option maxRecDepth 100000
set_option maxHeartbeats 4000000
/-! Rules of my own beside the hand layer: pairs handed out by enumerate and zip over tuples and texts; a text's slice with a step; a try with several clauses, some with a name. -/
namespace G58
open PySem PySem.Spec PyProof.Rows L2

/-! ### new pairs, handed out one by one -/
/-- n pairs while g stands; the i-th one is told by yv -/
def ItP (n : Nat) (g : Hp → Prop) (yv : Nat → V → V → Prop) : It where
  go := fun i H => i < n ∧ g H
  yld := fun i H v H' => ∃ T x y, v = .ref T ∧ H T = none ∧ H' = upd H T (.tup [x, y]) ∧ yv i x y
  stop := fun i H => i = n ∧ g H
theorem walkP {n : Nat} {g : Hp → Prop} {yv : Nat → V → V → Prop} :
    Walk (ItP n g yv) n g (fun i H v H' => ∃ T x y, v = .ref T ∧ H T = none ∧ H' = upd H T (.tup [x, y]) ∧ yv i x y) :=
  ⟨fun _ _ hi q => ⟨hi, q⟩, fun _ q => ⟨rfl, q⟩, fun _ _ _ _ _ _ y => y⟩
/-- what an iterator of pairs owes in a context -/
def PairsIn (X : Cx) (tg : Expr) (I : Addr) (fpA : List Addr) (n : Nat) (yv : Nat → V → V → Prop) (tn : Nat → Heap → Prop) (h0 : Heap) : Prop :=
  ∃ (fp wr : List Addr) (Y : Nat → Heap → Value → Heap → Prop) (St : Nat → Heap → Prop),
    GoesN X.prog X.w X.A tg I fp wr n Y St ∧ (∀ b ∈ wr, b ∈ fpA) ∧ (∀ i, tn i h0 → St i h0) ∧ (∀ i h, St i h → tn i h) ∧
    ∀ i ha v hb, Y i ha v hb → ∃ (T : Addr) (x y : V) (u1 u2 : Value), v = .ref T ∧ ha.objs.size ≤ T ∧ RelV x u1 ∧ RelV y u2 ∧ yv i x y ∧ hb.IsTuple T #[u1, u2]
theorem turnP {P : Program} {w : World} {K : PySem.W.Frag} {tg : Expr} {I : Addr} {fpA : List Addr} {n : Nat} {g : Hp → Prop} {yv : Nat → V → V → Prop} {tn : Nat → Heap → Prop}
    (mem : I ∈ fpA) (obj : ∀ i h, tn i h → ∀ b ∈ fpA, ∃ o, h.get? b = some o ∧ ∀ v, o.data ≠ .cell v)
    (keep : ∀ i h h', tn i h → (∀ b ∈ fpA, ∀ o, h.get? b = some o → h'.get? b = some o) → tn i h')
    (mk : ∀ (X : Cx), X.prog = P → X.w = w → X.K = K → X.calm = true → ∀ (i : Nat) (pins : List (Addr × Obj)) (s : Shared) (σ : L2.St) (H : Hp), Inv X pins σ H s → g H → tn i s.heap → PairsIn X tg I fpA n yv tn s.heap)
    (self : ∀ (A : Around) (i : Nat) (s : Shared) (Q : Value → Shared → Prop) (E : Value → Shared → Prop), tn i s.heap → Q (.ref I) s → wpAny (model P w) A (pyIter (.ref I)) Q E s) :
    Turn P w K tg (ItP n g yv) fpA I tn where
  mem := mem
  obj := obj
  keep := keep
  item := by
    intro X hP hw hK hc i pins s σ H E Iv hf st hg
    obtain ⟨fp, wr, Y, St, W, hwr, toS, ofS, hy⟩ := mk X hP hw hK hc i pins s σ H Iv hg.2 st
    subst hP hw hK
    refine W.goes i s _ E hg.1 (toS i st) fun v h' tk hY st' hk _ => ?_
    obtain ⟨T, x, y, u1, u2, ev, hT, r1, r2, hyv, htup⟩ := hy i _ v h' hY
    have new : ObjOk X.prog X.w (upd H T (.tup [x, y])) h' T (.tup [x, y]) := ⟨by show 2 ≤ sizeLine; decide, [u1, u2], .cons r1 (.cons r2 .nil), htup⟩
    have fpo : ∀ b ∈ wr, FpOk X pins H b := fun b hb => hf b (hwr b hb)
    refine ⟨.ref T, _, Iv.turnedNew (ch := wr) hk fpo hT new, ev, ⟨T, x, y, rfl, Iv.hok.fresh hT, rfl, hyv⟩, ofS _ _ st', fun b hb => ?_⟩
    obtain ⟨o, ho, _⟩ := obj i _ st b hb
    rw [upd_ne (Nat.ne_of_lt (Nat.lt_of_lt_of_le (Heap.lt_size ho) hT))]
    exact (hf b hb).1
  done := by
    intro X hP hw hK hc i pins s σ H E Iv hf st hg
    obtain ⟨fp, wr, Y, St, W, hwr, toS, ofS, hy⟩ := mk X hP hw hK hc i pins s σ H Iv hg.2 st
    subst hP hw hK
    obtain ⟨rfl, _⟩ := hg
    refine W.stops s _ E (toS i st) fun h' tk hk _ => ?_
    exact Iv.turnedL (ch := wr) hk fun b hb => hf b (hwr b hb)
  self := self
theorem pi_or {X : Cx} {tg it : Expr} {w1 w2 : TI} (h1 : PI X tg it w1) (h2 : PI X tg it w2) : PI X tg it (fun σ H R => w1 σ H R ∨ w2 σ H R) :=
  ⟨fun pins s σ H R Iv h => h.elim (h1.run pins s σ H R Iv) (h2.run pins s σ H R Iv)⟩

/-! ### enumerate(v), one argument, any v -/
set_option maxHeartbeats 1000000 in
theorem meets_enum1 {v : Value} {o : Obj} {G : Heap → Prop} (B : Begins v o G) :
    Meets (Builtin.«enumerate.__new__» ⟨[.type "enumerate", v], []⟩) (fun _ R s => G s.heap ∧
      R (.ok (.ret (.ref (s.heap.push o).objs.size))) { s with heap := (s.heap.push o).push { cls := .type "enumerate", data := .fields #[.none, .bool false, .ref s.heap.objs.size, rawInt 0, .none, .none] } }) :=
  .of_wp fun prog w A R s h => by
    obtain ⟨hp, gn, dr, tk, os⟩ := s
    obtain ⟨g1, h⟩ := h
    have hsub := sub_enumerate
    have go : ∀ {A' : Around} {E : Value → Shared → Prop} {Q : Value → Shared → Prop}, Q (.ref hp.objs.size) ⟨hp.push o, gn, dr, tk, os⟩ → wpAny (model prog w) A' (pyIter v) Q E ⟨hp, gn, dr, tk, os⟩ :=
      fun q => B.iter prog w _ _ ⟨hp, gn, dr, tk, os⟩ _ g1 q
    wp_walk using go
    refine wpAny_stack_any fun st => wpAny_pure ?_
    split
    · rename_i c _ _ _ _ _
      cases (c == Value.type "enumerate")
      all_goals
        wp_walk using go
        exact ⟨_, rfl, h⟩
    · wp_walk using go
      exact ⟨_, rfl, h⟩
theorem call_enum1 {prog : Program} {w : World} {A : Around} {E : Value → Shared → Prop} {s : Shared} {v : Value} {o : Obj} {G : Heap → Prop} {Q : Value → Shared → Prop} (B : Begins v o G) (g1 : G s.heap)
    (h : ∀ h', IsEnum h' (s.heap.objs.size + 1) s.heap.objs.size 0 .none → h'.get? s.heap.objs.size = some o → (∀ b u, s.heap.get? b = some u → h'.get? b = some u) → Q (.ref (s.heap.objs.size + 1)) { s with heap := h' }) :
    wpAny (model prog w) A (call (.type "enumerate") [v]) Q E s := by
  refine callType_new F.called_enumerate (by decide) (F.typeCall_enumerate_1 _) (F.newCall_enumerate_1 _) (fun obj => F.args_object_init_2 obj _) F.entry_enumerate_new (meets_enum1 B) ⟨g1, ?_⟩
  have hz : (s.heap.push o).objs.size = s.heap.objs.size + 1 := Heap.size_push ..
  show _ ∧ _
  rw [hz]
  have he : IsEnum ((s.heap.push o).push { cls := .type "enumerate", data := .fields #[.none, .bool false, .ref s.heap.objs.size, rawInt 0, .none, .none] }) (s.heap.objs.size + 1) s.heap.objs.size 0 .none := by
    have q := Heap.get?_push_size (s.heap.push o) (o := { cls := .type "enumerate", data := .fields #[.none, .bool false, .ref s.heap.objs.size, rawInt 0, .none, .none] }) rfl
    rw [hz] at q
    exact q
  exact ⟨⟨_, he, rfl⟩, h _ he (Heap.get?_push_of_some _ (Heap.get?_push_size _ B.free)) fun b u x => Heap.get?_push_of_some _ (Heap.get?_push_of_some _ x)⟩

/-! ### enumerate over a tuple -/
theorem turn_enumT {P : Program} {w : World} {K : PySem.W.Frag} {elts : List Expr} {kk : Nat} {tpos : Pos} {xs : List V} (a e it : Addr) :
    Turn P w K (.Tuple elts kk tpos) (ItP xs.length (fun H => SqT K H a xs) (fun i x y => x = .int (i : Nat) ∧ xs[i]? = some y)) [e, it] e
      (fun i h => (∃ old, IsEnum h e it (0 + (i : Int)) old) ∧ h.IsTupleIter it a i ∧ e ≠ it) := by
  refine turnP (by simp) (fun i h st b hb => ?_) (fun i h h' st k => ?_) (fun X hP hw hK hc i pins s σ H Iv hq st => ?_) (fun A i s Q E st q => ?_)
  · obtain ⟨⟨old, he⟩, ⟨o, ho, hc, hd⟩, _⟩ := st
    have z : b = e ∨ b = it := by simpa using hb
    rcases z with z | z
    · rw [z]; exact ⟨_, he, fun v q => nomatch q⟩
    · rw [z]; exact ⟨o, ho, fun v q => by rw [hd] at q; cases q⟩
  · obtain ⟨⟨old, he⟩, hi, hne⟩ := st
    exact ⟨⟨old, k e (by simp) _ he⟩, hi.at fun o q => k it (by simp) o q, hne⟩
  · subst hP hw hK
    obtain ⟨⟨old, he⟩, hit, hne⟩ := st
    obtain ⟨its, rv, p, hz⟩ := Iv.tuple hq
    have pT : s.heap.IsTuple a its.toArray := p
    have hlen := rv.length
    have n1 : a ≠ it := fun z => by
      obtain ⟨o, ho, hcl, _⟩ := hit
      obtain ⟨o', ho', hcl', _⟩ := pT
      rw [z, ho] at ho'
      cases ho'
      rw [hcl] at hcl'
      exact absurd (Value.type.inj hcl') (by decide)
    have n2 : e ≠ a := fun z => by
      obtain ⟨o', ho', hcl', _⟩ := pT
      have he' : s.heap.get? e = some _ := he
      rw [z, ho'] at he'
      cases he'
      exact absurd (Value.type.inj hcl') (by decide)
    have D : Draws X.prog X.w X.A.in1 it [it, a] its.toArray.size (fun i v => its.toArray[i]? = some v) (fun i h => h.IsTupleIter it a i ∧ h.IsTuple a its.toArray) := Draws.tuple (A := X.A.in1) (show X.A.in1.handled = none from Iv.ok.hd hc) it a n1 its.toArray
    have W := GoesN.enumFrom (elts := elts) (x1 := kk) (pos := tpos) 0 D e hne (fun z => by
      rcases List.mem_cons.mp z with q | q
      · exact hne q
      · exact n2 (List.mem_singleton.mp q)) (by simp)
    have en : its.toArray.size = xs.length := by rw [List.size_toArray]; exact hlen.symm
    rw [en] at W
    refine ⟨_, _, _, _, W, fun b hb => hb, fun j q => ?_, fun j h q => ?_, fun j ha v hb q => ?_⟩
    · exact ⟨q.1, q.2.1, pT⟩
    · exact ⟨q.1, q.2.1, hne⟩
    · obtain ⟨T, t, u, ev, hT, hu, htup⟩ := q
      have hl : j < xs.length := by
        have z := (Array.getElem?_eq_some_iff.mp hu).1
        rw [en] at z
        exact z
      obtain ⟨u', hu', ru⟩ := rv.get (x := xs[j]) (i := j) (by simp [hl])
      have eu : u' = u := by
        have z : its.toArray[j]? = some u' := by simpa using hu'
        rw [z] at hu
        exact Option.some.inj hu
      subst eu
      refine ⟨T, .int (j : Nat), xs[j], .int (0 + (j : Int)) t, u', ev, hT, ⟨t, ?_⟩, ru, ⟨rfl, by simp [hl]⟩, htup⟩
      rw [Int.zero_add]
  · obtain ⟨⟨old, he⟩, _⟩ := st
    exact wpAny_pyIter_enum he q
/-- for i, x in enumerate(t), t a tuple -/
def iEnumT (K : PySem.W.Frag) (ta : TA) : TI := fun σ H R => ta σ H fun vs H1 => ∃ a xs, vs = [.ref a] ∧ SqT K H1 a xs ∧ R (ItP xs.length (fun H => SqT K H a xs) (fun i x y => x = .int (i : Nat) ∧ xs[i]? = some y)) H1
theorem pi_enumT {X : Cx} {e : Expr} {ta : TA} {p pos tpos : Pos} {elts : List Expr} {kk : Nat} (hg : Gl X "enumerate") (hm : X.mg "enumerate" = none) (ha : PA X [e] ta)
    (hs : starEach [e] X.env = [(false, eval e X.env)] := by rfl) : PI X (.Tuple elts kk tpos) (.Call (.Name "enumerate" p) [e] [] pos) (iEnumT X.K ta) := by
  refine ⟨fun pins s σ H R Iv h => ?_⟩
  refine Call_ (ld_blt Iv hg hm boot_enumerate (PyProof.Rows.callWith_type1 (thn (ha.run pos pins s σ H _ Iv h) fun us s1 ⟨vs, H1, I1, r1, q1⟩ => ?_) hs rfl))
  obtain ⟨a, xs, ex, hq, q⟩ := q1
  subst ex
  obtain ⟨u, rfl, ru⟩ := vals1 r1
  obtain rfl : u = Value.ref a := ru
  obtain ⟨its, rv, p', hz⟩ := I1.tuple hq
  have pT : s1.heap.IsTuple a its.toArray := p'
  refine call_enum1 (begins_tuple a its.toArray) pT fun h' he hit hk => wpAny_pyIter_enum he ?_
  have I2 : Inv X pins σ H1 { s1 with heap := h' } := I1.kept (t' := s1.toks) hk
  refine ⟨s1.heap.objs.size + 1, [s1.heap.objs.size + 1, s1.heap.objs.size], _, _, H1, rfl, I2, turn_enumT a (s1.heap.objs.size + 1) s1.heap.objs.size, ⟨⟨.none, he⟩, ⟨_, hit, rfl, rfl⟩, Nat.succ_ne_self _⟩, fun b hb => ?_, q⟩
  have z : b = s1.heap.objs.size + 1 ∨ b = s1.heap.objs.size := by simpa using hb
  have hle : s1.heap.objs.size ≤ b := by
    rcases z with z | z <;> rw [z]
    · exact Nat.le_add_right _ _
    · exact Nat.le_refl _
  exact I1.fpOk hle (I1.hok.fresh hle)

/-! ### enumerate over a text -/
/-- the text of one sign -/
abbrev sgn (c : Nat) : Str := ⟨#[c]⟩
theorem turn_enumS {P : Program} {w : World} {K : PySem.W.Frag} {elts : List Expr} {kk : Nat} {tpos : Pos} (z : Str) (t : Tok) (e it : Addr) :
    Turn P w K (.Tuple elts kk tpos) (ItP z.cps.size (fun _ => True) (fun i x y => x = .int (i : Nat) ∧ ∃ c, z.cps[i]? = some c ∧ y = .str (sgn c))) [e, it] e
      (fun i h => (∃ old, IsEnum h e it (0 + (i : Int)) old) ∧ h.IsStrIter it (strIterType z) z t i ∧ e ≠ it) := by
  refine turnP (by simp) (fun i h st b hb => ?_) (fun i h h' st k => ?_) (fun X hP hw hK hc i pins s σ H Iv hq st => ?_) (fun A i s Q E st q => ?_)
  · obtain ⟨⟨old, he⟩, ⟨o, ho, hc, hd⟩, _⟩ := st
    have y : b = e ∨ b = it := by simpa using hb
    rcases y with y | y
    · rw [y]; exact ⟨_, he, fun v q => nomatch q⟩
    · rw [y]; exact ⟨o, ho, fun v q => by rw [hd] at q; cases q⟩
  · obtain ⟨⟨old, he⟩, ⟨o, ho, r⟩, hne⟩ := st
    exact ⟨⟨old, k e (by simp) _ he⟩, ⟨o, k it (by simp) o ho, r⟩, hne⟩
  · subst hP hw hK
    obtain ⟨⟨old, he⟩, hit, hne⟩ := st
    have D := Draws.text (prog := X.prog) (w := X.w) (A := X.A.in1) (Iv.ok.hd hc) it z t
    have W := GoesN.enumFrom (elts := elts) (x1 := kk) (pos := tpos) 0 D e hne (fun y => hne (List.mem_singleton.mp y)) (by simp)
    refine ⟨_, _, _, _, W, fun b hb => hb, fun j q => ⟨q.1, q.2.1⟩, fun j h q => ⟨q.1, q.2, hne⟩, fun j ha v hb q => ?_⟩
    obtain ⟨T, tk, u, ev, hT, ⟨c, tc, hc', rfl⟩, htup⟩ := q
    refine ⟨T, .int (j : Nat), .str (sgn c), .int (0 + (j : Int)) tk, .str ⟨#[c]⟩ tc, ev, hT, ⟨tk, ?_⟩, ⟨tc, rfl⟩, ⟨rfl, c, hc', rfl⟩, htup⟩
    rw [Int.zero_add]
  · obtain ⟨⟨old, he⟩, _⟩ := st
    exact wpAny_pyIter_enum he q
def iEnumS (ta : TA) : TI := fun σ H R => ta σ H fun vs H1 => ∃ z : Str, vs = [.str z] ∧ R (ItP z.cps.size (fun _ => True) (fun i x y => x = .int (i : Nat) ∧ ∃ c, z.cps[i]? = some c ∧ y = .str (sgn c))) H1
theorem pi_enumS {X : Cx} {e : Expr} {ta : TA} {p pos tpos : Pos} {elts : List Expr} {kk : Nat} (hg : Gl X "enumerate") (hm : X.mg "enumerate" = none) (ha : PA X [e] ta)
    (hs : starEach [e] X.env = [(false, eval e X.env)] := by rfl) : PI X (.Tuple elts kk tpos) (.Call (.Name "enumerate" p) [e] [] pos) (iEnumS ta) := by
  refine ⟨fun pins s σ H R Iv h => ?_⟩
  refine Call_ (ld_blt Iv hg hm boot_enumerate (PyProof.Rows.callWith_type1 (thn (ha.run pos pins s σ H _ Iv h) fun us s1 ⟨vs, H1, I1, r1, q1⟩ => ?_) hs rfl))
  obtain ⟨z, ex, q⟩ := q1
  subst ex
  obtain ⟨u, rfl, ru⟩ := vals1 r1
  obtain ⟨t, rfl⟩ := ru
  refine call_enum1 (begins_text z t) True.intro fun h' he hit hk => wpAny_pyIter_enum he ?_
  have I2 : Inv X pins σ H1 { s1 with heap := h' } := I1.kept (t' := s1.toks) hk
  refine ⟨s1.heap.objs.size + 1, [s1.heap.objs.size + 1, s1.heap.objs.size], _, _, H1, rfl, I2, turn_enumS z t (s1.heap.objs.size + 1) s1.heap.objs.size, ⟨⟨.none, he⟩, ⟨_, hit, rfl, rfl⟩, Nat.succ_ne_self _⟩, fun b hb => ?_, q⟩
  have y : b = s1.heap.objs.size + 1 ∨ b = s1.heap.objs.size := by simpa using hb
  have hle : s1.heap.objs.size ≤ b := by
    rcases y with y | y <;> rw [y]
    · exact Nat.le_add_right _ _
    · exact Nat.le_refl _
  exact I1.fpOk hle (I1.hok.fresh hle)

/-! ### zip of two texts -/
def zipY (y z : Str) : Nat → V → V → Prop := fun i u v => ∃ c d, y.cps[i]? = some c ∧ z.cps[i]? = some d ∧ u = .str (sgn c) ∧ v = .str (sgn d)
theorem turn_zipS {P : Program} {w : World} {K : PySem.W.Frag} {elts : List Expr} {kk : Nat} {tpos : Pos} (y z : Str) (t1 t2 : Tok) (N : Nat) :
    Turn P w K (.Tuple elts kk tpos) (ItP (min y.cps.size z.cps.size) (fun _ => True) (zipY y z)) [N + 4, N + 2, N + 3, N, N + 1] (N + 4)
      (fun i h => IsZip h (N + 4) (N + 2) (N + 3) .none ∧ IsTupOf2 h (N + 2) (.ref N) (.ref (N + 1)) ∧ (∃ a1 a2, IsTupOf2 h (N + 3) a1 a2) ∧ h.IsStrIter N (strIterType y) y t1 i ∧ h.IsStrIter (N + 1) (strIterType z) z t2 i) := by
  refine turnP (by simp) (fun i h st b hb => ?_) (fun i h h' st k => ?_) (fun X hP hw hK hc i pins s σ H Iv hq st => ?_) (fun A i s Q E st q => wpAny_pyIter_zip st.1 q)
  · obtain ⟨hz, hTI, ⟨a1, a2, hTO⟩, ⟨o1, e1, _, d1⟩, ⟨o2, e2, _, d2⟩⟩ := st
    have m : b = N + 4 ∨ b = N + 2 ∨ b = N + 3 ∨ b = N ∨ b = N + 1 := by simpa using hb
    rcases m with m | m | m | m | m <;> rw [m]
    · exact ⟨_, hz, fun v q => nomatch q⟩
    · exact ⟨_, hTI, fun v q => nomatch q⟩
    · exact ⟨_, hTO, fun v q => nomatch q⟩
    · exact ⟨o1, e1, fun v q => by rw [d1] at q; cases q⟩
    · exact ⟨o2, e2, fun v q => by rw [d2] at q; cases q⟩
  · obtain ⟨hz, hTI, ⟨a1, a2, hTO⟩, ⟨o1, e1, r1⟩, ⟨o2, e2, r2⟩⟩ := st
    exact ⟨k _ (by simp) _ hz, k _ (by simp) _ hTI, ⟨a1, a2, k _ (by simp) _ hTO⟩, ⟨o1, k _ (by simp) _ e1, r1⟩, ⟨o2, k _ (by simp) _ e2, r2⟩⟩
  · subst hP hw hK
    have D1 := Draws.text (prog := X.prog) (w := X.w) (A := X.A.in1) (Iv.ok.hd hc) N y t1
    have D2 := Draws.text (prog := X.prog) (w := X.w) (A := X.A.in1) (Iv.ok.hd hc) (N + 1) z t2
    have S : ZipSep2 (N + 4) (N + 2) (N + 3) N (N + 1) [N] [N + 1] := zip_sep2 (fp1 := []) (fp2 := []) (fun b hb => nomatch hb) (fun b hb => nomatch hb)
    have W := GoesN.zip2 (elts := elts) (x1 := kk) (pos := tpos) S D1 D2
    refine ⟨_, _, _, _, W, fun b hb => ?_, fun j q => q, fun j h q => q, fun j ha v hb q => ?_⟩
    · have m : b = N + 4 ∨ b = N + 3 ∨ b = N ∨ b = N + 1 := by simpa using hb
      rcases m with m | m | m | m <;> simp [m]
    · obtain ⟨T, u, u', ev, hT, ⟨c, tc, hc1, rfl⟩, ⟨d, td, hd1, rfl⟩, htup⟩ := q
      exact ⟨T, .str (sgn c), .str (sgn d), .str ⟨#[c]⟩ tc, .str ⟨#[d]⟩ td, ev, hT, ⟨tc, rfl⟩, ⟨td, rfl⟩, ⟨c, d, hc1, hd1, rfl, rfl⟩, htup⟩
def iZipS (ta : TA) : TI := fun σ H R => ta σ H fun vs H1 => ∃ y z : Str, vs = [.str y, .str z] ∧ R (ItP (min y.cps.size z.cps.size) (fun _ => True) (zipY y z)) H1
theorem pi_zipS {X : Cx} {e e2 : Expr} {ta : TA} {p pos tpos : Pos} {elts : List Expr} {kk : Nat} (hg : Gl X "zip") (hm : X.mg "zip" = none) (ha : PA X [e, e2] ta)
    (hs : starEach [e, e2] X.env = (false, eval e X.env) :: starEach [e2] X.env := by rfl) (hpl : (backTo pos (starEach [e2] X.env)).any (·.1) = false := by rfl) :
    PI X (.Tuple elts kk tpos) (.Call (.Name "zip" p) [e, e2] [] pos) (iZipS ta) := by
  refine ⟨fun pins s σ H R Iv h => ?_⟩
  refine Call_ (ld_blt Iv hg hm PyProof.Rows.boot_zip (PyProof.Rows.callWith_type1 (thn (ha.run pos pins s σ H _ Iv h) fun us s1 ⟨vs, H1, I1, r1, q1⟩ => ?_) hs hpl))
  obtain ⟨y, z, ex, q⟩ := q1
  subst ex
  obtain ⟨u1, u2, rfl, ru1, ru2⟩ := vals2 r1
  obtain ⟨t1, rfl⟩ := ru1
  obtain ⟨t2, rfl⟩ := ru2
  refine zip_begins2 (begins_text y t1) (begins_text z t2) True.intro True.intro fun h' hz hTI hTO h1 h2 _ hk => wpAny_pyIter_zip hz ?_
  have I2 : Inv X pins σ H1 { s1 with heap := h' } := I1.kept (t' := s1.toks) hk
  refine ⟨s1.heap.objs.size + 4, [s1.heap.objs.size + 4, s1.heap.objs.size + 2, s1.heap.objs.size + 3, s1.heap.objs.size, s1.heap.objs.size + 1], _, _, H1, rfl, I2, turn_zipS y z t1 t2 s1.heap.objs.size,
    ⟨hz, hTI, ⟨_, _, hTO⟩, ⟨_, h1, rfl, rfl⟩, ⟨_, h2, rfl, rfl⟩⟩, fun b hb => ?_, q⟩
  have m : b = s1.heap.objs.size + 4 ∨ b = s1.heap.objs.size + 2 ∨ b = s1.heap.objs.size + 3 ∨ b = s1.heap.objs.size ∨ b = s1.heap.objs.size + 1 := by simpa using hb
  have hle : s1.heap.objs.size ≤ b := by
    rcases m with m | m | m | m | m <;> rw [m] <;> first | exact Nat.le_refl _ | exact Nat.le_add_right _ _
  exact I1.fpOk hle (I1.hok.fresh hle)

/-! ### a text's slice with a step -/
def stepS (z : Str) (lo hi : Option Int) (k : Int) : Str := ⟨((Builtin.Str.strSliceIndices lo hi k z.length).filterMap (z.cps[·]?)).toArray⟩
def tStepS (te : TE) (tl th ts : TO) : TE := fun σ H Q => te σ H fun x H1 => tl σ H1 fun l H2 => th σ H2 fun u H3 => ts σ H3 fun st H4 =>
  ∃ (z : Str) (k : Int), x = .str z ∧ st = some k ∧ k ≠ 0 ∧ k ≠ 1 ∧ (stepS z l u k).length ≤ sizeLine ∧ Q (.str (stepS z l u k)) H4
theorem pe_stepS {X : Cx} {e st : Expr} {lo hi : Option Expr} {te : TE} {tl th ts : TO} {p2 pos : Pos} (he : PE X e te) (hl : PO X lo tl) (hu : PO X hi th) (hst : PO X (some st) ts) :
    PE X (.Subscript e (.Slice lo hi (some st) p2) pos) (tStepS te tl th ts) := by
  refine ⟨fun pins s σ H Q Iv h => ?_⟩
  refine Subscript_ (thn (he.run pins s σ H _ Iv h) fun v s1 ⟨x, H1, I1, r1, q1⟩ => ?_)
  refine wpAny_Slice (thn (hl.run pins s1 σ H1 _ I1 q1) fun vl s2 ⟨l, H2, I2, pl, q2⟩ => thn (hu.run pins s2 σ H2 _ I2 q2) fun vu s3 ⟨u, H3, I3, pu, q3⟩ =>
    thn (hst.run pins s3 σ H3 _ I3 q3) fun vs s4 ⟨o, H4, I4, ps, z, k, ex, eo, k0, k1, hsz, q⟩ => ?_)
  subst ex eo
  obtain ⟨t, rfl⟩ := r1
  obtain ⟨l', rfl, rfl⟩ := IsPart.raw pl
  obtain ⟨u', rfl, rfl⟩ := IsPart.raw pu
  cases ps with
  | int _ tk =>
    have I5 : Inv X pins σ H4 { s4 with heap := s4.heap.push { cls := .type "slice", data := .fields #[partValue l', partValue u', .int k tk] } } := I4.kept (t' := s4.toks) fun b ob q => Heap.get?_push_of_some _ q
    show wpAny (model X.prog X.w) X.A (subscriptTail e (.Slice lo hi (some st) p2) (.str z t) (.ref s4.heap.objs.size)) (EP X pins σ Q) X.xe { s4 with heap := s4.heap.push { cls := .type "slice", data := .fields #[partValue l', partValue u', .int k tk] } }
    refine tail_any (ops := [.str z t, .ref s4.heap.objs.size]) (typeIs_str _ _ _) F.slot_str_getitem.lookup ?_ (by with_unfolding_all rfl)
    have hk0 : (((some (k, tk) : Option (Int × Tok)).map (·.1)).getD 1 == 0) = false := by
      show (k == 0) = false
      simpa using k0
    refine wpAny_getItem_str_slice (l := l') (u := u') (st := some (k, tk)) ⟨_, Heap.get?_push_size _ rfl, rfl, rfl⟩ hk0 ?_
    have hk1 : (k == 1) = false := by simpa using k1
    show Made.post (if ((k : Int) == 1 && (Builtin.Str.strSliceIndices (l'.map (·.1)) (u'.map (·.1)) k z.length).length == z.length) = true then Made.val (.str z t)
      else Made.str ⟨((Builtin.Str.strSliceIndices (l'.map (·.1)) (u'.map (·.1)) k z.length).filterMap (z.cps[·]?)).toArray⟩) (EP X pins σ Q) _
    rw [hk1, Bool.false_and, if_neg Bool.false_ne_true]
    exact ⟨hsz, .str _, H4, I5.tok _, ⟨_, rfl⟩, q⟩
end G58

set_option Elab.async false
set_option linter.all false
set_option maxRecDepth 100000
set_option maxHeartbeats 4000000
/-! A try with several clauses, with or without a name. -/
namespace G58
open PySem PySem.Spec PyProof.Rows L2
/-- a clause: its class, the slot of its name if it has one, what its suite reads as -/
structure Clause where
  cls : Value
  slot : Option Nat
  ts : Addr → Value → Option Addr → TS
/-- behind a suite its name is gone -/
def unset (i : Nat) (D : Ends) : Ends :=
  ⟨fun s' H' => D.nx (s'.set i none) H', D.rt, fun s' H' => D.bk (s'.set i none) H', fun s' H' => D.ct (s'.set i none) H'⟩
def Clause.does (cl : Clause) (D : Ends) (a : Addr) (k : Value) (d : Option Addr) (st : L2.St) (H : Hp) : Prop :=
  match cl.slot with
  | none => cl.ts a k d D st H
  | some i => i < st.length → cl.ts a k d (unset i D) (st.set i (some (.ref a))) H
/-- what the clauses wish, from the first on -/
def wMix (K : PySem.W.Frag) (Wout : WX) (D : Ends) : List Clause → WX
  | [] => Wout
  | cl :: r => fun k d st H => ∃ b, PySem.W.exmOne K k cl.cls = some b ∧ (b = true → ∀ a, H a = none → cl.does D a k d st H) ∧ (b = false → wMix K Wout D r k d st H)
/-- the suite of a clause -/
def SuiteOk (X : Cx) (body : List Stmt) (ts : Addr → Value → Option Addr → TS) : Prop :=
  ∀ (a : Addr) (oe : Obj) (k : Value) (d : Option Addr) (pn : List (Addr × Obj)), Zc k d oe → (∃ vs, oe.data = .fields vs) → PSs (X.suite a ((a, oe) :: pn)) body (ts a k d)
inductive MixOk (X : Cx) : List ExceptHandler → List Clause → Prop
  | nil : MixOk X [] []
  | bare {x : Str} {c : Value} {ts : Addr → Value → Option Addr → TS} {b0 : Stmt} {suite : List Stmt} {np hp : Pos} {hds : List ExceptHandler} {l : List Clause}
      (hc : Names X x c) (hsu : SuiteOk X (b0 :: suite) ts) (r : MixOk X hds l) : MixOk X (.ExceptHandler (some (.Name x np)) none (b0 :: suite) hp :: hds) (⟨c, none, ts⟩ :: l)
  | named {x n : Str} {i : Nat} {c : Value} {ts : Addr → Value → Option Addr → TS} {b0 : Stmt} {suite : List Stmt} {np hp : Pos} {hds : List ExceptHandler} {l : List Clause}
      (hN : X.N.Nodup) (hi : X.N[i]? = some n) (hln : X.env.kindOf n = some .local)
      (hc : Names X x c) (hsu : SuiteOk X (b0 :: suite) ts) (r : MixOk X hds l) : MixOk X (.ExceptHandler (some (.Name x np)) (some n) (b0 :: suite) hp :: hds) (⟨c, some i, ts⟩ :: l)
section
variable {X : Cx} {body : List Stmt} {h0 : ExceptHandler} {hds : List ExceptHandler} {l : List Clause} {pos : Pos} {tb : WX → TS} {Wout : WX}
theorem name_in_suite {a : Addr} {oe : Obj} {pins : List (Addr × Obj)} {st : L2.St} {H : Hp} {s : Shared} {x : Str} {c : Value} {np : Pos} (S : Inv (X.suite a ((a, oe) :: (X.pn ++ pins))) [] st H s) (hc : Names X x c)
    {Q : Value → Shared → Prop} {E : Value → Shared → Prop} (q : Q c s) : wpAny (model X.prog X.w) (X.A.mark (some (.ref a))) (eval (.Name x np) X.env) Q E s := by
  obtain ⟨hg, hdb, hm | ⟨hm, hv, hnn⟩⟩ := hc
  · exact ld_glob (X := X.suite a ((a, oe) :: (X.pn ++ pins))) S hg hm q hdb
  · exact ld_blt (X := X.suite a ((a, oe) :: (X.pn ++ pins))) S hg hm hv q hnn hdb
theorem ps_try_mix (hs : X.stack = X.env :: X.outer) (hf : X.env.frame = some X.env.locals) (tk : Takes X Wout)
    (hb : ∀ (W : WX) (pn : List (Addr × Obj)) (xe : Value → Shared → Prop), Takes (X.tr pn xe) W → PassesOwn (model X.prog X.w) X.A X.env xe → PSs (X.tr pn xe) body (tb W))
    (hh : MixOk X (h0 :: hds) l) : PS X (.Try body (h0 :: hds) [] [] pos) (fun D st H => tb (wMix X.K Wout D l) D st H) := by
  refine ⟨fun pins s st H D Iv h => ?_⟩
  have ok := Iv.ok
  have hfr : X.A.frames = some (X.env :: X.outer) := ok.frames.trans (congrArg some hs)
  refine wpAny_Try_except ?_
  let catcher : Value → Shared → Prop := fun e s1 => wpAny (model X.prog X.w) X.A (noteFrame e X.env) (fun _ s2 => wpAny (model X.prog X.w) X.A (setFlight e none)
    (fun _ s3 => wpAny (model X.prog X.w) X.A (handleBy e X.env (h0 :: hds)) (SP X pins D) X.xe s3) X.xe s2) X.xe s1
  have takes : Takes (X.tr (X.pn ++ pins) catcher) (wMix X.K Wout D l) := by
    intro u s' xx
    obtain ⟨a, B, sI, pins', st', H', k, d, rfl, J', nb, up, sky, na, os, ag, w⟩ := xx
    have J : Inv X pins st' H' sI := J'.ofTry ok
    have sky' : Sky B (X.env :: X.outer) a (Zc k d) X.env.locals s'.heap := by
      have z : Sky B X.stack a (Zc k d) X.env.locals s'.heap := sky
      rw [hs] at z
      exact z
    refine Sky.land Zc.steady hfr hf sky' fun h3 fl3 up3 => ?_
    have J3 : Inv X pins st' H' { s' with heap := h3 } := J.landed nb fl3.1 (up.trans up3) os ag
    obtain ⟨oe3, vs3, he3, hz3, hd3⟩ := fl3.there
    have apart : a ∉ frs (X.env :: X.outer) := fun hm => by
      obtain ⟨_, o', e', hnf⟩ := fl3.2.2.1.mem hm
      rw [he3] at e'
      cases e'
      exact hnf _ hd3
    have nL : a ≠ X.env.locals := fun z => apart (List.mem_filterMap.mpr ⟨X.env, List.mem_cons_self, by rw [hf, z]⟩)
    have nF : a ∉ X.fs := fun hm => by
      obtain ⟨e, he, q⟩ := List.mem_filterMap.mp hm
      exact apart (List.mem_filterMap.mpr ⟨e, List.mem_cons_of_mem _ he, q⟩)
    have S3 := J3.suite he3 hd3 na nL nF
    have ofType : PySem.W.Looks (model X.prog X.w) h3 (typeOf (.ref a)) k := fun A Q E s kk q => wpAny_typeOf_ref (kk _ _ he3) (by rw [hz3.1]; exact q)
    have go : ∀ {hds' : List ExceptHandler} {l' : List Clause}, MixOk X hds' l' → wMix X.K Wout D l' k d st' H' →
        wpAny (model X.prog X.w) X.A (handleBy (.ref a) X.env hds') (SP X pins D) X.xe { s' with heap := h3 } := by
      intro hds' l' hk
      induction hk with
      | nil =>
        intro w
        refine wpAny_handleBy_nil ?_
        obtain ⟨k1, k2, k3, oe, vs, T, oT, ts', he, hz, hd, hv1, hr⟩ := id fl3
        unfold PySem.passOn
        refine wpAny_bind (wpAny_field he hd hv1 ?_)
        rw [if_neg (show ¬ ((Value.ref T == Value.none) = true) from by simp)]
        have fin : wpAny (model X.prog X.w) X.A (setFlight (.ref a) X.env.frame) (fun _ s4 => wpAny (model X.prog X.w) X.A (throw (.ref a) : Sem Flow) (SP X pins D) X.xe s4) X.xe { s' with heap := h3 } := by
          rw [hf]
          refine HandSPX.setFlight_upZ fl3 fun h4 hh4 up4 => wpAny_throw (tk _ _ ?_)
          exact ⟨a, B, sI, pins, st', H', k, d, rfl, J, nb, (up.trans up3).trans up4, .inr (.inr (by rw [hs]; exact hh4)), na, os, ag, w⟩
        first
          | exact wpAny_bind (wpAny_pure (wpAny_bind fin))
          | exact wpAny_bind fin
      | bare hc hsu r ih =>
        intro w
        obtain ⟨b, hb1, hyes, hno⟩ := w
        refine wpAny_handleBy_cons (codeAny_handlers_test ?_) (by intro q; cases q)
        refine name_in_suite S3 hc ((PySem.W.exm_one (M := model X.prog X.w) J3.kIn ofType hb1).here ?_)
        cases b with
        | true =>
          refine codeAny_handlers_suite ?_
          refine HandSPX.lands_againZ fl3 fun h4 fl4 up4 => ?_
          have J4 : Inv X pins st' H' { s' with heap := h4 } := J.landed nb fl4.1 ((up.trans up3).trans up4) os ag
          obtain ⟨oe4, vs4, he4, hz4, hd4⟩ := fl4.there
          have S4 := J4.suite he4 hd4 na nL nF
          refine wpAny_mono ((hsu a oe4 k d (X.pn ++ pins) hz4 ⟨_, hd4⟩).run [] _ _ H' _ S4 (hyes rfl a na)) (fun f s6 hsp => ?_) (fun _ _ z => False.elim z)
          cases f with
          | ret u =>
            obtain ⟨v6, t6, H6, S6, r6, q6⟩ := hsp
            exact ⟨_, _, _, S6.unsuite ok, r6, q6⟩
          | _ =>
            obtain ⟨t6, H6, S6, q6⟩ := hsp
            exact ⟨_, _, S6.unsuite ok, q6⟩
        | false => exact ih (hno rfl)
      | named hN hi hln hc hsu r ih =>
        intro w
        obtain ⟨b, hb1, hyes, hno⟩ := w
        refine wpAny_handleBy_cons (codeAny_handlers_test ?_) (by intro q; cases q)
        refine name_in_suite S3 hc ((PySem.W.exm_one (M := model X.prog X.w) J3.kIn ofType hb1).here ?_)
        cases b with
        | true =>
          refine codeAny_handlers_suite_as ?_
          refine HandSPX.lands_againZ fl3 fun h4 fl4 up4 => ?_
          have J4 : Inv X pins st' H' { s' with heap := h4 } := J.landed nb fl4.1 ((up.trans up3).trans up4) os ag
          obtain ⟨oe4, vs4, he4, hz4, hd4⟩ := fl4.there
          have S4 := J4.suite he4 hd4 na nL nF
          refine store_ok (X := X.suite a ((a, oe4) :: (X.pn ++ pins))) (v := .ref a) S4 hN hi (.inl hln) rfl (fun s5 S5 => ?_) (.inr hln)
          refine wpAny_mono ((hsu a oe4 k d (X.pn ++ pins) hz4 ⟨_, hd4⟩).run [] s5 _ H' _ S5 (hyes rfl a na (by rw [J.len]; exact (List.getElem?_eq_some_iff.mp hi).1))) (fun f s6 hsp => ?_) (fun _ _ z => False.elim z)
          cases f with
          | ret u =>
            obtain ⟨v6, t6, H6, S6, r6, q6⟩ := hsp
            exact gone_ok (S6.unsuite ok) hN hi hln fun s7 J7 => ⟨_, _, _, J7, r6, q6⟩
          | _ =>
            obtain ⟨t6, H6, S6, q6⟩ := hsp
            exact gone_ok (S6.unsuite ok) hN hi hln fun s7 J7 => ⟨_, _, J7, q6⟩
        | false => exact ih (hno rfl)
    exact go hh w
  refine wpAny_mono ((hb (wMix X.K Wout D l) (X.pn ++ pins) catcher takes PassesOwn.looking).run [] s st H D (Iv.toTry _) h) (fun f s1 hsp => ?_) (fun e s1 he => he)
  cases f with
  | next =>
    obtain ⟨t1, H1, J1, q⟩ := hsp
    exact wpAny_execs_nil ⟨t1, H1, J1.ofTry ok, q⟩
  | ret u =>
    obtain ⟨v, t1, H1, J1, r, q⟩ := hsp
    exact ⟨v, t1, H1, J1.ofTry ok, r, q⟩
  | _ =>
    obtain ⟨t1, H1, J1, q⟩ := hsp
    exact ⟨t1, H1, J1.ofTry ok, q⟩
end
end G58

set_option Elab.async false
set_option linter.all false
set_option maxRecDepth 100000
set_option maxHeartbeats 4000000
/-! Plain mathematics of hexadecimal texts: no program in sight. -/
namespace G58
open PySem L2

/-- the codes of the sixteen digits -/
def hexCs : List Nat := [48, 49, 50, 51, 52, 53, 54, 55, 56, 57, 97, 98, 99, 100, 101, 102]
def isHex (c : Nat) : Bool := hexCs.contains c
def dig (k : Nat) : Nat := hexCs.getD k 0
def hexN (n : Nat) : List Nat := [dig (n / 16), dig (n % 16)]
/-- the digits of a row of bytes -/
def hexL : List Nat → List Nat
  | [] => []
  | n :: r => hexN n ++ hexL r
def Bytes (ns : List Nat) : Prop := ∀ n ∈ ns, n < 256
/-- two digits a byte -/
def rdL : List Nat → List Nat
  | a :: b :: r => (16 * hexCs.idxOf a + hexCs.idxOf b) :: rdL r
  | _ => []
/-- what read_hex answers to a text of these codes: the place of a fault, or the bytes -/
def rdOut (l : List Nat) : Sum Nat (List Nat) :=
  match l.findIdx? fun c => !isHex c with
  | some i => .inl i
  | none => if l.length % 2 = 0 then .inr (rdL l) else .inl l.length

theorem dig_hex : ∀ k, k < 16 → isHex (dig k) = true := by decide
theorem dig_idx : ∀ k, k < 16 → hexCs.idxOf (dig k) = k := by decide
theorem idx_lt {c : Nat} (h : isHex c = true) : hexCs.idxOf c < 16 := by
  have h1 : c ∈ hexCs := by
    unfold isHex at h
    simpa using h
  exact List.idxOf_lt_length_iff.mpr h1
theorem hexL_len : ∀ ns : List Nat, (hexL ns).length = 2 * ns.length
  | [] => rfl
  | n :: r => by
    show (hexN n ++ hexL r).length = 2 * (r.length + 1)
    rw [List.length_append, hexL_len r]
    show 2 + 2 * r.length = 2 * (r.length + 1)
    omega
theorem hexL_hex : ∀ {ns : List Nat}, Bytes ns → ∀ c ∈ hexL ns, isHex c = true
  | [], _, c, h => nomatch h
  | n :: r, hb, c, h => by
    have hn : n < 256 := hb n List.mem_cons_self
    rcases List.mem_append.mp h with h | h
    · have h' : c = dig (n / 16) ∨ c = dig (n % 16) := by
        unfold hexN at h
        simpa using h
      rcases h' with rfl | rfl
      · exact dig_hex _ (by omega)
      · exact dig_hex _ (by omega)
    · exact hexL_hex (fun m hm => hb m (List.mem_cons_of_mem _ hm)) c h
theorem rdL_hexL : ∀ {ns : List Nat}, Bytes ns → rdL (hexL ns) = ns
  | [], _ => rfl
  | n :: r, hb => by
    have hn : n < 256 := hb n List.mem_cons_self
    show (16 * hexCs.idxOf (dig (n / 16)) + hexCs.idxOf (dig (n % 16))) :: rdL (hexL r) = n :: r
    rw [dig_idx _ (by omega), dig_idx _ (by omega), rdL_hexL (fun m hm => hb m (List.mem_cons_of_mem _ hm))]
    congr 1
    omega
theorem find_none {l : List Nat} (h : ∀ c ∈ l, isHex c = true) : l.findIdx? (fun c => !isHex c) = none := by
  rw [List.findIdx?_eq_none_iff]
  intro c hc
  rw [h c hc]
  rfl
theorem rdOut_good {l : List Nat} (h : ∀ c ∈ l, isHex c = true) (he : l.length % 2 = 0) : rdOut l = .inr (rdL l) := by
  unfold rdOut
  rw [find_none h]
  show (if l.length % 2 = 0 then _ else _) = _
  rw [if_pos he]
theorem rdOut_odd {l : List Nat} (h : ∀ c ∈ l, isHex c = true) (he : l.length % 2 = 1) : rdOut l = .inl l.length := by
  unfold rdOut
  rw [find_none h]
  show (if l.length % 2 = 0 then _ else _) = _
  rw [if_neg (by omega)]
theorem rdOut_hexL {ns : List Nat} (hb : Bytes ns) : rdOut (hexL ns) = .inr ns := by
  rw [rdOut_good (hexL_hex hb) (by rw [hexL_len]; omega), rdL_hexL hb]
theorem find_at {l r : List Nat} {c : Nat} (h : ∀ x ∈ l, isHex x = true) (hc : isHex c = false) : (l ++ c :: r).findIdx? (fun c => !isHex c) = some l.length := by
  induction l with
  | nil =>
    show (c :: r).findIdx? _ = some 0
    rw [List.findIdx?_cons, hc]
    rfl
  | cons a l ih =>
    show (a :: (l ++ c :: r)).findIdx? _ = some (l.length + 1)
    rw [List.findIdx?_cons, h a List.mem_cons_self, ih fun x hx => h x (List.mem_cons_of_mem _ hx)]
    rfl
theorem rdOut_at {l r : List Nat} {c : Nat} (h : ∀ x ∈ l, isHex x = true) (hc : isHex c = false) : rdOut (l ++ c :: r) = .inl l.length := by
  unfold rdOut
  rw [find_at h hc]
/-! the three bends -/
theorem bend0 {ns : List Nat} (hb : Bytes ns) {a b c : Nat} (ha : a ≤ (hexL ns).length) (hc : isHex c = false) : rdOut ((hexL ns).take a ++ [c] ++ (hexL ns).drop b) = .inl a := by
  rw [List.append_assoc]
  show rdOut ((hexL ns).take a ++ c :: (hexL ns).drop b) = .inl a
  rw [rdOut_at (fun x hx => hexL_hex hb x (List.mem_of_mem_take hx)) hc, List.length_take, Nat.min_eq_left ha]
theorem bend1 {ns : List Nat} (hb : Bytes ns) {a : Nat} (ha : a ≤ (hexL ns).length) : rdOut ((hexL ns).take a ++ [55] ++ (hexL ns).drop a) = .inl ((hexL ns).length + 1) := by
  have hl : ((hexL ns).take a ++ [55] ++ (hexL ns).drop a).length = (hexL ns).length + 1 := by
    rw [List.length_append, List.length_append, List.length_take, List.length_drop, Nat.min_eq_left ha]
    show a + 1 + ((hexL ns).length - a) = _
    omega
  rw [rdOut_odd _ (by rw [hl, hexL_len]; omega), hl]
  intro x hx
  rcases List.mem_append.mp hx with hx | hx
  · rcases List.mem_append.mp hx with hx | hx
    · exact hexL_hex hb x (List.mem_of_mem_take hx)
    · rw [List.mem_singleton.mp hx]
      rfl
  · exact hexL_hex hb x (List.mem_of_mem_drop hx)
theorem bend2 {ns : List Nat} (hb : Bytes ns) (hn : ns ≠ []) : rdOut ((hexL ns).drop 1) = .inl ((hexL ns).length - 1) := by
  have h0 : 0 < ns.length := List.length_pos_iff.mpr hn
  have hl : ((hexL ns).drop 1).length = (hexL ns).length - 1 := List.length_drop
  rw [rdOut_odd (fun x hx => hexL_hex hb x (List.mem_of_mem_drop hx)) (by rw [hl, hexL_len]; omega), hl]

/-! the slices with step 2 -/
def evens : List Nat → List Nat
  | a :: _ :: r => a :: evens r
  | [a] => [a]
  | [] => []
def odds : List Nat → List Nat
  | _ :: b :: r => b :: odds r
  | _ => []
theorem evens_get : ∀ (l : List Nat) (i : Nat), (evens l)[i]? = l[2 * i]?
  | [], i => by simp [evens]
  | [a], 0 => rfl
  | [a], i + 1 => by simp [evens]
  | a :: b :: r, 0 => rfl
  | a :: b :: r, i + 1 => by
    show (evens r)[i]? = (a :: b :: r)[2 * (i + 1)]?
    rw [evens_get r i, show 2 * (i + 1) = 2 * i + 1 + 1 by omega, List.getElem?_cons_succ, List.getElem?_cons_succ]
theorem odds_get : ∀ (l : List Nat) (i : Nat), (odds l)[i]? = l[2 * i + 1]?
  | [], i => by simp [odds]
  | [a], i => by
    show ([] : List Nat)[i]? = _
    simp
  | a :: b :: r, 0 => rfl
  | a :: b :: r, i + 1 => by
    show (odds r)[i]? = (a :: b :: r)[2 * (i + 1) + 1]?
    rw [odds_get r i, show 2 * (i + 1) + 1 = 2 * i + 1 + 1 + 1 by omega, List.getElem?_cons_succ, List.getElem?_cons_succ]
theorem rdL_get : ∀ (l : List Nat) (i : Nat), (rdL l)[i]? = match l[2 * i]?, l[2 * i + 1]? with | some a, some b => some (16 * hexCs.idxOf a + hexCs.idxOf b) | _, _ => none
  | [], i => by simp [rdL]
  | [a], i => by
    show ([] : List Nat)[i]? = _
    have h : ([a] : List Nat)[2 * i + 1]? = none := by simp
    rw [h]
    cases ([a] : List Nat)[2 * i]? <;> simp
  | a :: b :: r, 0 => rfl
  | a :: b :: r, i + 1 => by
    show (rdL r)[i]? = _
    rw [rdL_get r i, show 2 * (i + 1) + 1 = 2 * i + 1 + 1 + 1 by omega, show 2 * (i + 1) = 2 * i + 1 + 1 by omega, List.getElem?_cons_succ, List.getElem?_cons_succ, List.getElem?_cons_succ, List.getElem?_cons_succ]
theorem rdL_len : ∀ l : List Nat, (rdL l).length = l.length / 2
  | [] => rfl
  | [a] => by
    show 0 = 1 / 2
    rfl
  | a :: b :: r => by
    show (rdL r).length + 1 = (r.length + 1 + 1) / 2
    rw [rdL_len r]
    omega
/-- the picked places of l[::2], l[1::2] -/
theorem pick_evens (l : List Nat) : ((List.range ((l.length + 1) / 2)).map fun k => 2 * k).filterMap (l[·]?) = evens l := by
  have H : ∀ (l : List Nat) (m : Nat), (l.length + 1) / 2 ≤ m → ((List.range m).map fun k => 2 * k).filterMap (l[·]?) = evens l := by
    intro l
    induction l using evens.induct with
    | case1 a b r ih =>
      intro m hm
      have hm' : (r.length + 1) / 2 + 1 ≤ m := by
        have : (a :: b :: r).length = r.length + 2 := rfl
        omega
      obtain ⟨m, rfl⟩ : ∃ k, m = k + 1 := ⟨m - 1, by omega⟩
      rw [List.range_succ_eq_map, List.map_cons, List.map_map, List.filterMap_cons]
      show a :: (((List.range m).map ((fun k => 2 * k) ∘ Nat.succ)).filterMap fun x => (a :: b :: r)[x]?) = a :: evens r
      rw [← ih m (by omega), List.filterMap_map, List.filterMap_map]
      congr 1
    | case2 a =>
      intro m hm
      obtain ⟨m, rfl⟩ : ∃ k, m = k + 1 := ⟨m - 1, by have : ([a] : List Nat).length = 1 := rfl; omega⟩
      rw [List.range_succ_eq_map, List.map_cons, List.map_map, List.filterMap_cons]
      show a :: (((List.range m).map ((fun k => 2 * k) ∘ Nat.succ)).filterMap fun x => ([a] : List Nat)[x]?) = [a]
      congr 1
      rw [List.filterMap_map, List.filterMap_eq_nil_iff]
      intro k _
      show ([a] : List Nat)[2 * (k + 1)]? = none
      rw [List.getElem?_eq_none]
      show 1 ≤ _
      omega
    | case3 =>
      intro m _
      rw [List.filterMap_eq_nil_iff.mpr]
      · rfl
      · intro k _
        rfl
  exact H l _ (Nat.le_refl _)
theorem pick_odds (l : List Nat) : ((List.range (l.length / 2)).map fun k => 1 + 2 * k).filterMap (l[·]?) = odds l := by
  have H : ∀ (l : List Nat) (m : Nat), l.length / 2 ≤ m → ((List.range m).map fun k => 1 + 2 * k).filterMap (l[·]?) = odds l := by
    intro l
    induction l using evens.induct with
    | case1 a b r ih =>
      intro m hm
      have hm' : r.length / 2 + 1 ≤ m := by
        have : (a :: b :: r).length = r.length + 2 := rfl
        omega
      obtain ⟨m, rfl⟩ : ∃ k, m = k + 1 := ⟨m - 1, by omega⟩
      rw [List.range_succ_eq_map, List.map_cons, List.map_map, List.filterMap_cons]
      show b :: (((List.range m).map ((fun k => 1 + 2 * k) ∘ Nat.succ)).filterMap fun x => (a :: b :: r)[x]?) = b :: odds r
      rw [← ih m (by omega), List.filterMap_map, List.filterMap_map]
      congr 1
    | case2 a =>
      intro m _
      show _ = ([] : List Nat)
      rw [List.filterMap_eq_nil_iff]
      intro k hk
      obtain ⟨j, _, rfl⟩ := List.mem_map.mp hk
      show ([a] : List Nat)[1 + 2 * j]? = none
      rw [List.getElem?_eq_none]
      show 1 ≤ _
      omega
    | case3 =>
      intro m _
      rw [List.filterMap_eq_nil_iff.mpr]
      · rfl
      · intro k _
        rfl
  exact H l _ (Nat.le_refl _)
end G58

set_option Elab.async false
set_option linter.all false
set_option maxRecDepth 100000
set_option maxHeartbeats 4000000
/-! k74: the package's own defs. -/
namespace G58
open PySem PySem.Spec PyProof.Rows L2
def topS (i : Nat) : Stmt := PySem.Challenge.pw_nestfile_k74_bytes_as_texts.main.body.getD i (.Pass ⟨0, 0, 0, 0⟩)
abbrev sInitB : Stmt := inClass (topS 2) 0
abbrev sInitT : Stmt := inClass (topS 3) 0
abbrev sInt : Stmt := topS 5
abbrev sBtw : Stmt := topS 6
abbrev sChk : Stmt := topS 8
abbrev sOct : Stmt := topS 11
abbrev sOcts : Stmt := topS 12
abbrev sHex : Stmt := topS 13
abbrev sRead : Stmt := topS 14
/-- where the top has laid the things of the text -/
structure Ad where
  (cN cB cT fiB fiT fInt fBtw fChk fOct fOcts fHex fRead : Addr)
/-- an own exception class with a field place -/
structure ExC (K : PySem.W.Frag) (C f : Addr) : Prop where
  ox : OexC K C
  xf : XfC K C
  no : PySem.W.findIn K (.ref C) "place" = some none
  ini : PySem.W.findIn K (.ref C) "__init__" = some (some (.ref f))
  ti : PySem.W.typeIn K (.ref f) = some (.type "function")
/-- what the module's names hold -/
structure Txt (K : PySem.W.Frag) (mg : Str → Option Value) (a : Ad) : Prop where
  xB : ExC K a.cB a.fiB
  xT : ExC K a.cT a.fiT
  gN : mg "NestError" = some (.ref a.cN)
  gB : mg "NoBytes" = some (.ref a.cB)
  gT : mg "BadText" = some (.ref a.cT)
  gInt : mg "is_integer" = some (.ref a.fInt)
  gBtw : mg "is_between" = some (.ref a.fBtw)
  gChk : mg "check_bytes" = some (.ref a.fChk)
  gHEX : ∃ t, mg "HEX" = some (.str "0123456789abcdef" t)
  gOct : mg "hex_octet" = some (.ref a.fOct)
  gOcts : mg "hex_octets" = some (.ref a.fOcts)
  gHex : mg "hex_text" = some (.ref a.fHex)
  gRead : mg "read_hex" = some (.ref a.fRead)
  bIsi : mg "isinstance" = none
  bInt : mg "int" = none
  bBool : mg "bool" = none
  bEnum : mg "enumerate" = none
  bZip : mg "zip" = none
  bLen : mg "len" = none
/-! ### kinds of things that are handed in -/
def byteV : V → Bool
  | .int i => decide (0 ≤ i) && decide (i ≤ 255)
  | _ => false
def intV : V → Bool
  | .int _ => true
  | _ => false
/-- a thing whose type is known: an int, None, a bool, a text, a list, a tuple, a dict -/
inductive Kd (K : PySem.W.Frag) (H : Hp) : V → Prop
  | int (i : Int) : Kd K H (.int i)
  | non : Kd K H .non
  | bl (b : Bool) : Kd K H (.bl b)
  | str (z : Str) : Kd K H (.str z)
  | lst {a : Addr} {xs : List V} (h : H a = some (.lst xs)) : Kd K H (.ref a)
  | tup {a : Addr} {xs : List V} (h : H a = some (.tup xs)) : Kd K H (.ref a)
  | dct {a : Addr} {kvs : List (Key × V)} (h : H a = some (.dK kvs)) : Kd K H (.ref a)
  | ktup {a : Addr} {o : Obj} (e : K.lookup a = some o) (c : o.cls = .type "tuple") : Kd K H (.ref a)
theorem Kd.mono {K : PySem.W.Frag} {H H' : Hp} (s : Same H H') {x : V} (k : Kd K H x) : Kd K H' x := by
  cases k with
  | int i => exact .int i
  | non => exact .non
  | bl b => exact .bl b
  | str z => exact .str z
  | lst h => exact .lst (s _ _ h)
  | tup h => exact .tup (s _ _ h)
  | dct h => exact .dct (s _ _ h)
  | ktup e c => exact .ktup e c
/-- the answers of isinstance(x, int) and isinstance(x, bool) -/
theorem Kd.isi {K : PySem.W.Frag} {H : Hp} {x : V} (k : Kd K H x) : ∃ (t : Value) (b1 b2 : Bool), TyX K H x t ∧ PySem.W.kitOne K t (.type "int") = some b1 ∧ PySem.W.kitOne K t (.type "bool") = some b2 ∧ (b1 && !b2) = intV x ∧ (intV x = true → b1 = true) := by
  cases k with
  | int i => exact ⟨_, true, false, .base (.int i), kit_ty (by decide +kernel), kit_ty (by decide +kernel), rfl, fun _ => rfl⟩
  | non => exact ⟨_, false, false, .base .non, kit_ty (by decide +kernel), kit_ty (by decide +kernel), rfl, fun q => nomatch q⟩
  | bl b => exact ⟨_, true, true, .base (.bl b), kit_ty (by decide +kernel), kit_ty (by decide +kernel), rfl, fun q => nomatch q⟩
  | str z => exact ⟨_, false, false, .base (.str z), kit_ty (by decide +kernel), kit_ty (by decide +kernel), rfl, fun q => nomatch q⟩
  | lst h => exact ⟨_, false, false, .base (.lst h), kit_ty (by decide +kernel), kit_ty (by decide +kernel), rfl, fun q => nomatch q⟩
  | tup h => exact ⟨_, false, false, .base (.tup h), kit_ty (by decide +kernel), kit_ty (by decide +kernel), rfl, fun q => nomatch q⟩
  | dct h => exact ⟨_, false, false, .base (.dK h), kit_ty (by decide +kernel), kit_ty (by decide +kernel), rfl, fun q => nomatch q⟩
  | ktup e c => exact ⟨_, false, false, .kTuple e c, kit_ty (by decide +kernel), kit_ty (by decide +kernel), rfl, fun q => nomatch q⟩
/-! ### the promises -/
def spEI (C : Addr) : Sp := fun vs H Q _ => ∃ (a : Addr) (v : V), vs = [.ref a, v] ∧ H a = some (exo a C none) ∧ ∀ dx, H dx = none → dx ≠ a → Q .non (upd (upd H dx (exd dx [(("place" : Str), v)])) a (exo a C (some dx)))
def spInt (K : PySem.W.Frag) : Sp := fun vs H Q _ => ∃ x, vs = [x] ∧ Kd K H x ∧ Q (.bl (intV x)) H
def btwV (x : V) (lo hi : Int) : Bool := match x with
  | .int i => decide (lo ≤ i) && decide (i ≤ hi)
  | _ => false
def spBtw (K : PySem.W.Frag) : Sp := fun vs H Q _ => ∃ (x : V) (lo hi : Int), vs = [x, .int lo, .int hi] ∧ Kd K H x ∧ Q (.bl (btwV x lo hi)) H
section
variable {P : Program} {w : World} {K : PySem.W.Frag} {mg : Str → Option Value} {base : Heap} {a : Ad}
theorem scEB : FnScope ["self", "place"] ["self", "place"] (defScope sInitB) := ⟨rfl, rfl, rfl, by decide +kernel, rfl, by decide +kernel, by decide +kernel⟩
theorem scET : FnScope ["self", "place"] ["self", "place"] (defScope sInitT) := ⟨rfl, rfl, rfl, by decide +kernel, rfl, by decide +kernel, by decide +kernel⟩
theorem ok_initB {f : Addr} {fd : FuncData} (F : Fun K "__init__" "NoBytes.__init__" sInitB f fd) (X : ExC K a.cB a.fiB) : FnOk P w K mg base CX0 1 f fd ["self", "place"] (spEI a.cB) := by
  refine F.ok scEB (fun vs H Q E h => ?_) (fun cdv A outer s H vs Q E hr h => ?_)
  · obtain ⟨x, v, rfl, _⟩ := h
    rfl
  · obtain ⟨x, v, rfl, hx, k⟩ := h
    refine ⟨_, pss_one (ps_ost (pv 0) (pv 1)), ?_⟩
    exact ⟨_, rfl, _, rfl, x, a.cB, rfl, X.ox, X.no, .inl ⟨hx, fun dx h1 h2 => k dx h1 h2⟩⟩
theorem ok_initT {f : Addr} {fd : FuncData} (F : Fun K "__init__" "BadText.__init__" sInitT f fd) (X : ExC K a.cT a.fiT) : FnOk P w K mg base CX0 1 f fd ["self", "place"] (spEI a.cT) := by
  refine F.ok scET (fun vs H Q E h => ?_) (fun cdv A outer s H vs Q E hr h => ?_)
  · obtain ⟨x, v, rfl, _⟩ := h
    rfl
  · obtain ⟨x, v, rfl, hx, k⟩ := h
    refine ⟨_, pss_one (ps_ost (pv 0) (pv 1)), ?_⟩
    exact ⟨_, rfl, _, rfl, x, a.cT, rfl, X.ox, X.no, .inl ⟨hx, fun dx h1 h2 => k dx h1 h2⟩⟩
theorem scInt : FnScope ["thing"] ["thing"] (defScope sInt) := ⟨rfl, rfl, rfl, by decide +kernel, rfl, by decide +kernel, by decide +kernel⟩
theorem ok_int {f : Addr} {fd : FuncData} (F : Fun K "is_integer" "is_integer" sInt f fd) (T : Txt K mg a) : FnOk P w K mg base CX0 1 f fd ["thing"] (spInt K) := by
  refine F.ok scInt (fun vs H Q E h => ?_) (fun cdv A outer s H vs Q E hr h => ?_)
  · obtain ⟨x, rfl, _⟩ := h
    rfl
  · obtain ⟨x, rfl, kd, k⟩ := h
    refine ⟨_, pss_one (ps_ret (pe_and (pe_callB call_isi (by rfl) T.bIsi (by decide +kernel) (pa_cons (pv 0) (pa_cons (pe_bltn (v := .ty "int") rfl T.bInt (by decide +kernel) rfl) pa_nil)))
      (pe_one (pe_not (pe_callB call_isi (by rfl) T.bIsi (by decide +kernel) (pa_cons (pv 0) (pa_cons (pe_bltn (v := .ty "bool") rfl T.bBool (by decide +kernel) rfl) pa_nil))))))), ?_⟩
    obtain ⟨t, b1, b2, ty, k1, k2, e, _⟩ := kd.isi
    refine ⟨_, rfl, x, .ty "int", t, _, b1, rfl, .ty _, ty, k1, _, rfl, ?_⟩
    cases b1 with
    | false =>
      refine iteF ?_
      rw [← e] at k
      exact k
    | true =>
      refine iteT ?_
      refine ⟨_, rfl, x, .ty "bool", t, _, b2, rfl, .ty _, ty, k2, _, rfl, ?_⟩
      rw [← e] at k
      exact k
theorem scBtw : FnScope ["thing", "least", "most"] ["thing", "least", "most"] (defScope sBtw) := ⟨rfl, rfl, rfl, by decide +kernel, rfl, by decide +kernel, by decide +kernel⟩
theorem ok_btw {f : Addr} {fd fdI : FuncData} (F : Fun K "is_between" "is_between" sBtw f fd) (T : Txt K mg a) (FI : Fun K "is_integer" "is_integer" sInt a.fInt fdI) (bI : Binds K fdI ["thing"] []) : FnOk P w K mg base CX0 2 f fd ["thing", "least", "most"] (spBtw K) := by
  have GI : FnOk P w K mg base CX0 1 a.fInt fdI ["thing"] (spInt K) := ok_int FI T
  refine F.ok scBtw (fun vs H Q E h => ?_) (fun cdv A outer s H vs Q E hr h => ?_)
  · obtain ⟨x, lo, hi, rfl, _⟩ := h
    rfl
  · obtain ⟨x, lo, hi, rfl, kd, k⟩ := h
    refine ⟨_, pss_one (ps_ret (pe_and (pe_call GI hr rfl T.gInt FI.kp bI .nil pass0 (pa_cons (pv 0) pa_nil)) (pe_one (pe_chain op_le op_le (pv 1) (pv 0) (pv 2))))), ?_⟩
    refine ⟨_, rfl, x, rfl, kd, _, rfl, ?_⟩
    cases x with
    | int i =>
      refine iteT ?_
      refine ⟨_, rfl, _, rfl, _, _, rfl, rfl, _, rfl, ?_⟩
      by_cases c : lo ≤ i
      · rw [decide_eq_true c]
        refine iteT ?_
        refine ⟨_, rfl, _, _, rfl, rfl, ?_⟩
        have e : btwV (.int i) lo hi = decide (i ≤ hi) := by
          show (decide (lo ≤ i) && decide (i ≤ hi)) = _
          rw [decide_eq_true c, Bool.true_and]
        rw [e] at k
        exact k
      · rw [decide_eq_false c]
        refine iteF ?_
        have e : btwV (.int i) lo hi = false := by
          show (decide (lo ≤ i) && decide (i ≤ hi)) = _
          rw [decide_eq_false c, Bool.false_and]
        rw [e] at k
        exact k
    | _ => exact iteF k
end
end G58

set_option Elab.async false
set_option linter.all false
set_option maxRecDepth 100000
set_option maxHeartbeats 4000000
/-! k74: check_bytes, hex_octet, hex_octets, hex_text, read_hex. -/
namespace G58
open PySem PySem.Spec PyProof.Rows L2
/-! ### an error made and raised -/
abbrev plc (v : V) : List (Str × V) := [(("place" : Str), v)]
theorem mk_read {C : Addr} {v : V} {H1 : Hp} {Qx : XK} (h : ∀ d, H1 d = none → Qx (.ref C) (some d) (upd H1 d (.xd (plc v)))) (x : Addr) (hx : H1 x = none) :
    spEI C (.ref x :: ([v] ++ [])) (upd H1 x (exo x C none)) (fun u H2 => u = .non ∧ ∃ (d : Addr) (fs : List (Str × V)), H2 x = some (exo x C (some d)) ∧ H2 d = some (exd d fs) ∧ H1 d = none ∧ Qx (.ref C) (some d) (upd (del H2 x) d (.xd fs))) (fun _ _ _ => False) := by
  refine ⟨x, v, rfl, upd_same, fun dx h1 h2 => ?_⟩
  rw [upd_ne h2] at h1
  refine ⟨rfl, dx, plc v, upd_same, by rw [upd_ne h2, upd_same], h1, ?_⟩
  have e : upd (del (upd (upd (upd H1 x (exo x C none)) dx (exd dx (plc v))) x (exo x C (some dx))) x) dx (.xd (plc v)) = upd H1 dx (.xd (plc v)) := by
    funext b
    by_cases hb : b = dx
    · rw [hb, upd_same, upd_same]
    · rw [upd_ne hb, upd_ne hb]
      by_cases hc : b = x
      · rw [hc, del_same, hx]
      · rw [del_ne hc, upd_ne hc, upd_ne hb, upd_ne hc]
  rw [e]
  exact h dx h1
theorem same_new {H H1 : Hp} (s : Same H H1) {d : Addr} {o : HO} (hd : H1 d = none) : Same H (upd H1 d o) := fun b u e => by
  rw [upd_ne (ne_of_none (s b u e) hd)]
  exact s b u e
/-- what is wanted of the error of class C with its place -/
def Out (C : Addr) (H : Hp) (E : XK) (i : Int) : Prop := ∀ d H', Same H H' → H' d = some (.xd (plc (.int i))) → E (.ref C) (some d) H'
/-! ### check_bytes -/
def spChk (K : PySem.W.Frag) (C : Addr) : Sp := fun vs H Q E => ∃ (p : Addr) (xs : List V), vs = [.ref p] ∧ (SqL K H p xs ∨ SqT K H p xs) ∧ (∀ x ∈ xs, Kd K H x) ∧
  (∀ i, xs.findIdx? (fun x => !byteV x) = some i → Out C H E (i : Nat)) ∧ (xs.findIdx? (fun x => !byteV x) = none → ∀ H', Same H H' → Q .non H')
theorem byte_btw (x : V) : btwV x 0 255 = byteV x := by cases x <;> rfl
theorem find_first {α : Type} {p : α → Bool} : ∀ {l : List α} {i : Nat} {x : α}, l[i]? = some x → (∀ j y, j < i → l[j]? = some y → p y = false) → p x = true → l.findIdx? p = some i
  | [], i, x, h, _, _ => by simp at h
  | a :: l, 0, x, h, _, hp => by
    have e : a = x := Option.some.inj h
    rw [List.findIdx?_cons, e, hp]
    rfl
  | a :: l, i + 1, x, h, hj, hp => by
    have ih := find_first (l := l) (i := i) h (fun j y hji hy => hj (j + 1) y (by omega) hy) hp
    rw [List.findIdx?_cons, hj 0 a (by omega) rfl, ih]
    rfl
theorem find_all {α : Type} {p : α → Bool} {l : List α} (h : ∀ j y, j < l.length → l[j]? = some y → p y = false) : l.findIdx? p = none := by
  rw [List.findIdx?_eq_none_iff]
  intro x hx
  obtain ⟨j, hj, e⟩ := List.mem_iff_getElem.mp hx
  exact h j x hj (by rw [List.getElem?_eq_getElem hj, e])
/-- pairs of a place and a thing -/
def YEn (xs : List V) : Nat → Hp → V → Hp → Prop := fun i H v H' => ∃ T y, v = .ref T ∧ H T = none ∧ H' = upd H T (.tup [.int (i : Nat), y]) ∧ xs[i]? = some y
theorem enL {K : PySem.W.Frag} {p : Addr} {xs : List V} : Walk (Ite K p) xs.length (fun H => SqL K H p xs) (YEn xs) :=
  walk_enum.mono (fun _ h => h) fun i H v H' _ _ y => by
    obtain ⟨T, x, z, h1, h2, h3, h4, h5⟩ := y
    cases Option.some.inj h4
    exact ⟨T, z, h1, h2, h3, h5⟩
theorem enT {K : PySem.W.Frag} {p : Addr} {xs : List V} : Walk (ItP xs.length (fun H => SqT K H p xs) (fun i x y => x = .int (i : Nat) ∧ xs[i]? = some y)) xs.length (fun H => SqT K H p xs) (YEn xs) :=
  walkP.mono (fun _ h => h) fun i H v H' _ _ y => by
    obtain ⟨T, x, z, h1, h2, h3, rfl, h5⟩ := y
    exact ⟨T, z, h1, h2, h3, h5⟩
theorem Same.tup {K : PySem.W.Frag} {H H' : Hp} {p : Addr} {xs : List V} (e : Same H H') (h : SqT K H p xs) : SqT K H' p xs := by
  rcases h with (h | ⟨o, h⟩) | h
  · exact .inl (.inl (e _ _ h))
  · exact .inl (.inr ⟨o, e _ _ h⟩)
  · exact .inr h
section
variable {P : Program} {w : World} {K : PySem.W.Frag} {mg : Str → Option Value} {base : Heap} {a : Ad}
theorem scChk : FnScope ["data", "place", "octet"] ["data"] (defScope sChk) := ⟨rfl, rfl, rfl, by decide +kernel, rfl, by decide +kernel, by decide +kernel⟩
theorem ok_chk {f : Addr} {fd fdI fdB fdE : FuncData} (F : Fun K "check_bytes" "check_bytes" sChk f fd) (T : Txt K mg a) (FI : Fun K "is_integer" "is_integer" sInt a.fInt fdI) (bI : Binds K fdI ["thing"] [])
    (FB : Fun K "is_between" "is_between" sBtw a.fBtw fdB) (bB : Binds K fdB ["thing", "least", "most"] []) (FE : Fun K "__init__" "NoBytes.__init__" sInitB a.fiB fdE) (bE : Binds K fdE ["self", "place"] []) :
    FnOk P w K mg base (L2.CX P w) 3 f fd ["data"] (spChk K a.cB) := by
  have GB : FnOk P w K mg base CX0 2 a.fBtw fdB ["thing", "least", "most"] (spBtw K) := ok_btw FB T FI bI
  have GE : FnOk P w K mg base CX0 1 a.fiB fdE ["self", "place"] (spEI a.cB) := ok_initB FE T.xB
  refine F.okX scChk (fun vs H Q E h => ?_) (fun cdv A outer s H vs Q E hr h => ?_)
  · obtain ⟨p, xs, rfl, _⟩ := h
    rfl
  · obtain ⟨p, xs, rfl, hS, hK, hbad, hgood⟩ := h
    refine ⟨_, pss_one (ps_for (passes_of rfl) rfl (pi_or (pi_enum (by rfl) T.bEnum (pa_cons (pv 0) pa_nil)) (pi_enumT (by rfl) T.bEnum (pa_cons (pv 0) pa_nil)))
      (pg_tup rfl (pgs_cons (pg_name (i := 1) scChk.nd rfl (.inl rfl)) (pgs_cons (pg_name (i := 2) scChk.nd rfl (.inl rfl)) pgs_nil)))
      (pss_one (ps_if (pt_not (pt_val (pe_call GB hr rfl T.gBtw FB.kp bB .nil pass0 (pa_cons (pv 2) (pa_cons pe_int (pa_cons pe_int pa_nil))))))
        (pss_one (ps_raise rfl (takes_of rfl rfl rfl rfl) (pmk_oex T.xB.ox T.xB.ini T.xB.ti GE hr bE .nil pass0 rfl T.gB (pa_cons (pv 1) pa_nil)))) pss_nil))), ?_⟩
    let Pv : Nat → L2.St → Hp → Prop := fun i st H1 => ∃ u1 u2, st = [some (.ref p), u1, u2] ∧ Same H H1 ∧ ∀ j y, j < i → xs[j]? = some y → byteV y = true
    have start : Pv 0 [some (.ref p), none, none] H := ⟨none, none, rfl, Same.refl H, fun j y hj => absurd hj (Nat.not_lt_zero j)⟩
    have last : ∀ st H1, Pv xs.length st H1 → Q .non H1 := fun st H1 ⟨_, _, _, s1, hall⟩ => hgood (find_all fun j y hj hy => by rw [hall j y hj hy]; rfl) H1 s1
    rcases hS with hS | hS
    · refine .inl ⟨_, rfl, p, xs, rfl, hS, for_it enL Pv start (fun i st H1 _ ⟨_, _, _, s1, _⟩ => s1.seq hS) ?_ last⟩
      rintro i x st H1 H2 hi ⟨u1, u2, rfl, s1, hall⟩ ⟨T', y, rfl, hT', rfl, hy⟩
      refine ⟨T', _, rfl, .inl (.inl upd_same), rfl, _, _, rfl, _, _, rfl, rfl, ?_⟩
      have s2 : Same H (upd H1 T' (.tup [.int (i : Nat), y])) := same_new s1 hT'
      refine ⟨_, rfl, y, 0, 255, rfl, (hK y (List.mem_of_getElem? hy)).mono s2, _, rfl, ?_⟩
      rw [byte_btw]
      cases hb : byteV y with
      | true =>
        refine iteF ⟨_, _, rfl, s2, fun j z hj hz => ?_⟩
        rcases Nat.lt_succ_iff_lt_or_eq.mp hj with q | q
        · exact hall j z q hz
        · rw [q, hy] at hz
          cases hz
          exact hb
      | false =>
        refine iteT ⟨_, rfl, by show 1 ≤ 1000; decide, mk_read fun d hd => ?_⟩
        exact hbad i (find_first hy (fun j z hj hz => by rw [hall j z hj hz]; rfl) (by rw [hb]; rfl)) d _ (same_new s2 hd) upd_same
    · refine .inr ⟨_, rfl, p, xs, rfl, hS, for_it enT Pv start (fun i st H1 _ ⟨_, _, _, s1, _⟩ => Same.tup s1 hS) ?_ last⟩
      rintro i x st H1 H2 hi ⟨u1, u2, rfl, s1, hall⟩ ⟨T', y, rfl, hT', rfl, hy⟩
      refine ⟨T', _, rfl, .inl (.inl upd_same), rfl, _, _, rfl, _, _, rfl, rfl, ?_⟩
      have s2 : Same H (upd H1 T' (.tup [.int (i : Nat), y])) := same_new s1 hT'
      refine ⟨_, rfl, y, 0, 255, rfl, (hK y (List.mem_of_getElem? hy)).mono s2, _, rfl, ?_⟩
      rw [byte_btw]
      cases hb : byteV y with
      | true =>
        refine iteF ⟨_, _, rfl, s2, fun j z hj hz => ?_⟩
        rcases Nat.lt_succ_iff_lt_or_eq.mp hj with q | q
        · exact hall j z q hz
        · rw [q, hy] at hz
          cases hz
          exact hb
      | false =>
        refine iteT ⟨_, rfl, by show 1 ≤ 1000; decide, mk_read fun d hd => ?_⟩
        exact hbad i (find_first hy (fun j z hj hz => by rw [hall j z hj hz]; rfl) (by rw [hb]; rfl)) d _ (same_new s2 hd) upd_same
end
end G58

set_option Elab.async false
set_option linter.all false
set_option maxRecDepth 100000
set_option maxHeartbeats 4000000
/-! k74: hex_octet, hex_octets, hex_text, read_hex. -/
namespace G58
open PySem PySem.Spec PyProof.Rows L2 TL
abbrev strOf (l : List Nat) : Str := ⟨l.toArray⟩
abbrev vInts (ns : List Nat) : List V := ns.map fun n => V.int (n : Nat)
abbrev HX : Str := "0123456789abcdef"
theorem hx_cps : HX.cps.toList = hexCs := by decide +kernel
theorem hx_len : HX.length = 16 := by decide +kernel
theorem hx_at {k : Nat} (h : k < 16) : HX.cps[k]? = some (dig k) := by
  rw [← Array.getElem?_toList, hx_cps]
  revert h
  revert k
  decide
theorem hx_occ : ∀ c ∈ hexCs, Builtin.Str.occurrences HX ⟨#[c]⟩ 0 HX.length 1 = [hexCs.idxOf c] := by decide +kernel
theorem str_app (l r : List Nat) : strOf l ++ strOf r = strOf (l ++ r) := ext_tl (tl_append _ _)
theorem len_strOf (l : List Nat) : (strOf l).length = l.length := by
  rw [len_tl]
theorem join_hex : ∀ ns : List Nat, Txt.join Str.empty (ns.map fun n => strOf (hexN n)) = strOf (hexL ns) := by
  intro ns
  rw [join_eq]
  refine ext_tl ?_
  rw [tl_join]
  show joinL [] ((ns.map fun n => strOf (hexN n)).map tl) = hexL ns
  rw [List.map_map]
  show joinL [] (ns.map fun n => hexN n) = hexL ns
  induction ns with
  | nil => rfl
  | cons n r ih =>
    cases r with
    | nil =>
      show hexN n = hexN n ++ []
      rw [List.append_nil]
    | cons m r =>
      show hexN n ++ ([] ++ joinL [] ((m :: r).map fun n => hexN n)) = hexN n ++ hexL (m :: r)
      rw [ih, List.nil_append]
def natV : V → Nat
  | .int i => i.toNat
  | _ => 0
theorem bytes_of {xs : List V} (h : xs.findIdx? (fun x => !byteV x) = none) : ∃ ns, Bytes ns ∧ xs = vInts ns := by
  rw [List.findIdx?_eq_none_iff] at h
  induction xs with
  | nil => exact ⟨[], fun n hn => (nomatch hn), rfl⟩
  | cons x r ih =>
    obtain ⟨ns, hb, e⟩ := ih fun y hy => h y (List.mem_cons_of_mem _ hy)
    have hx := h x List.mem_cons_self
    cases x with
    | int i =>
      have q : (decide (0 ≤ i) && decide (i ≤ 255)) = true := by
        have z : (!(decide (0 ≤ i) && decide (i ≤ 255))) = false := hx
        simpa using z
      have q2 : 0 ≤ i ∧ i ≤ 255 := by simpa using q
      refine ⟨i.toNat :: ns, fun n hn => ?_, ?_⟩
      · rcases List.mem_cons.mp hn with rfl | hn
        · omega
        · exact hb n hn
      · show V.int i :: r = V.int (i.toNat : Nat) :: vInts ns
        rw [e, Int.toNat_of_nonneg q2.1]
    | _ => exact absurd (show true = false from hx) Bool.noConfusion
theorem vInts_good {ns : List Nat} (hb : Bytes ns) : (vInts ns).findIdx? (fun x => !byteV x) = none := by
  rw [List.findIdx?_eq_none_iff]
  intro x hx
  obtain ⟨n, hn, rfl⟩ := List.mem_map.mp hx
  have q := hb n hn
  show (!(decide ((0 : Int) ≤ (n : Int)) && decide ((n : Int) ≤ 255))) = false
  rw [decide_eq_true (by omega), decide_eq_true (by omega)]
  rfl
/-! ### promises -/
def spOct : Sp := fun vs H Q _ => ∃ n : Nat, vs = [.int (n : Nat)] ∧ n < 256 ∧ Q (.str (strOf (hexN n))) H
def spOcts (K : PySem.W.Frag) : Sp := fun vs H Q _ => ∃ (p : Addr) (ns : List Nat), vs = [.ref p] ∧ (SqL K H p (vInts ns) ∨ SqT K H p (vInts ns)) ∧ Bytes ns ∧ ns.length ≤ 1000 ∧ ∀ H', Same H H' → Q (.str (strOf (hexL ns))) H'
def spHex (K : PySem.W.Frag) (C : Addr) : Sp := fun vs H Q E => ∃ (p : Addr) (xs : List V), vs = [.ref p] ∧ (SqL K H p xs ∨ SqT K H p xs) ∧ (∀ x ∈ xs, Kd K H x) ∧ xs.length ≤ 1000 ∧
  (∀ i, xs.findIdx? (fun x => !byteV x) = some i → Out C H E (i : Nat)) ∧ (∀ ns, xs = vInts ns → Bytes ns → ∀ H', Same H H' → Q (.str (strOf (hexL ns))) H')
def spRead (C : Addr) : Sp := fun vs H Q E => ∃ z : Str, vs = [.str z] ∧ z.length ≤ 1000 ∧ (∀ i, rdOut (tl z) = .inl i → Out C H E (i : Nat)) ∧
  ∀ ns, rdOut (tl z) = .inr ns → ∀ p H', H p = none → Same H H' → H' p = some (.lst (vInts ns)) → Q (.ref p) H'
section
variable {P : Program} {w : World} {K : PySem.W.Frag} {mg : Str → Option Value} {base : Heap} {a : Ad}
theorem scOct : FnScope ["octet"] ["octet"] (defScope sOct) := ⟨rfl, rfl, rfl, by decide +kernel, rfl, by decide +kernel, by decide +kernel⟩
theorem ok_oct {f : Addr} {fd : FuncData} (F : Fun K "hex_octet" "hex_octet" sOct f fd) (T : Txt K mg a) : FnOk P w K mg base CX0 1 f fd ["octet"] spOct := by
  refine F.ok scOct (fun vs H Q E h => ?_) (fun cdv A outer s H vs Q E hr h => ?_)
  · obtain ⟨n, rfl, _⟩ := h
    rfl
  · obtain ⟨n, rfl, hn, k⟩ := h
    obtain ⟨t, gH⟩ := T.gHEX
    refine ⟨_, pss_one (ps_ret (pe_op op_add_str (pe_item_str (pe_glob (v := .str HX) rfl gH ⟨_, rfl⟩) (pe_op op_fdiv (pv 0) pe_int) (fun _ _ => rfl))
      (pe_item_str (pe_glob (v := .str HX) rfl gH ⟨_, rfl⟩) (pe_op op_sub (pv 0) (pe_op op_mul (pe_op op_fdiv (pv 0) pe_int) pe_int)) (fun _ _ => rfl)))), ?_⟩
    have e1 : (n : Int) / 16 = ((n / 16 : Nat) : Int) := by omega
    have e2 : (n : Int) - (n : Int) / 16 * 16 = ((n % 16 : Nat) : Int) := by omega
    have l1 : n / 16 < 16 := by omega
    have l2 : n % 16 < 16 := by omega
    refine ⟨_, rfl, _, _, rfl, rfl, ⟨by decide, by decide⟩, HX, _, dig (n / 16), rfl, rfl, by omega, by omega, by rw [hx_len]; omega, ?_, ?_⟩
    · rw [e1, Int.toNat_natCast]
      exact hx_at l1
    refine ⟨_, rfl, _, rfl, _, _, rfl, rfl, ⟨by decide, by decide⟩, _, _, rfl, rfl, .inr ⟨by decide, by decide⟩, _, _, rfl, rfl, HX, _, dig (n % 16), rfl, rfl, by rw [e2]; omega, by rw [e2]; omega, by rw [hx_len, e2]; omega, ?_, ?_⟩
    · rw [e2, Int.toNat_natCast]
      exact hx_at l2
    refine ⟨_, _, rfl, rfl, by show 2 ≤ sizeLine; decide, ?_⟩
    exact k
theorem scOcts : FnScope ["octets", "octet"] ["octets"] (defScope sOcts) := ⟨rfl, rfl, rfl, by decide +kernel, rfl, by decide +kernel, by decide +kernel⟩
theorem ok_octs {f : Addr} {fd fdO : FuncData} (F : Fun K "hex_octets" "hex_octets" sOcts f fd) (T : Txt K mg a) (FO : Fun K "hex_octet" "hex_octet" sOct a.fOct fdO) (bO : Binds K fdO ["octet"] []) : FnOk P w K mg base CX0 2 f fd ["octets"] (spOcts K) := by
  have GO : FnOk P w K mg base CX0 1 a.fOct fdO ["octet"] spOct := ok_oct FO T
  refine F.ok scOcts (fun vs H Q E h => ?_) (fun cdv A outer s H vs Q E hr h => ?_)
  · obtain ⟨p, ns, rfl, _⟩ := h
    rfl
  · obtain ⟨p, ns, rfl, hS, hb, hl, k⟩ := h
    refine ⟨_, pss_one (ps_ret (pe_join pe_str (pe_lc (own := [("octet", 1)]) (g := gName 1) (tt := tYes) rfl scOcts.nd (pi_or (pi_list (pv 0)) (pi_tup (pv 0)))
      (blkOk_by (N := ["octets", "octet"]) (sc := defScope sOcts) (by decide +kernel)) (fun _ _ _ _ _ => pg_name (i := 1) scOcts.nd rfl (Or.inl rfl)) (fun _ _ _ _ _ => pts_nil)
      (fun _ _ _ _ _ => pe_call GO hr rfl T.gOct FO.kp bO .nil pass0 (pa_cons (pv 1) pa_nil))))), ?_⟩
    refine ⟨⟨_, rfl⟩, ?_⟩
    have fin : ∀ (D : Addr) (H1 : Hp), H1 D = some (.lst ((ns.map fun n => strOf (hexN n)).map V.str)) → Same H H1 →
        ∃ (x : Str) (q : Addr) (ys : List Str), V.str Str.empty = .str x ∧ [V.ref D] = [.ref q] ∧ (SqL K H1 q (ys.map V.str) ∨ SqT K H1 q (ys.map V.str)) ∧ (ys.map (·.length)).sum + ys.length * x.length ≤ 16777216 ∧ Q (.str (Txt.join x ys)) H1 := by
      intro D H1 hD s1
      refine ⟨Str.empty, D, ns.map fun n => strOf (hexN n), rfl, rfl, .inl (.inl (.inl hD)), ?_, ?_⟩
      · have e : ∀ l : List Nat, ((l.map fun n => strOf (hexN n)).map (·.length)).sum = 2 * l.length := by
          intro l
          induction l with
          | nil => rfl
          | cons m r ih =>
            show (strOf (hexN m)).length + ((r.map fun n => strOf (hexN n)).map (·.length)).sum = 2 * (r.length + 1)
            rw [ih, len_strOf]
            show 2 + 2 * r.length = _
            omega
        rw [e]
        show 2 * ns.length + _ * 0 ≤ _
        omega
      · rw [join_hex]
        exact k H1 s1
    let Pv : Addr → Nat → Hp → Prop := fun D i H1 => H1 D = some (.lst (((ns.take i).map fun n => strOf (hexN n)).map V.str)) ∧ Same H H1
    have turn : ∀ (D : Addr), H D = none → ∀ (i : Nat) (x : V) (H1 : Hp), Pv D i H1 → (vInts ns)[i]? = some x →
        ∃ n : Nat, x = .int (n : Nat) ∧ n < 256 ∧ ∃ acc, H1 D = some (.lst acc) ∧ acc.length < sizeLine ∧ Pv D (i + 1) (upd H1 D (.lst (acc ++ [.str (strOf (hexN n))]))) := by
      intro D hD i x H1 ⟨h1, s1⟩ hx
      rw [List.getElem?_map] at hx
      obtain ⟨n, hn, rfl⟩ := Option.map_eq_some_iff.mp hx
      have hi : i < ns.length := (List.getElem?_eq_some_iff.mp hn).1
      refine ⟨n, rfl, hb n (List.mem_of_getElem? hn), _, h1, ?_, ?_, ?_⟩
      · rw [List.length_map, List.length_map, List.length_take]
        exact Nat.lt_of_le_of_lt (Nat.le_trans (Nat.min_le_right _ _) hl) (by decide)
      · rw [upd_same, List.take_add_one, hn]
        simp
      · intro b o e
        rw [upd_ne (ne_of_none e hD)]
        exact s1 b o e
    rcases hS with hS | hS
    · refine .inl ⟨_, rfl, p, rfl, ⟨_, hS⟩, fun D hD => lc_it (walk_list (K := K) (a := p) (xs := vInts ns)) (Pv D) ⟨upd_same, same_new (Same.refl H) hD⟩ (fun i H1 _ q => q.2.seq hS) ?_ ?_⟩
      · rintro i x H1 H2 hi q ⟨rfl, hx⟩
        obtain ⟨n, rfl, hn, acc, h1, h2, h3⟩ := turn D hD i x H2 q hx
        exact ⟨rfl, ⟨_, rfl, n, rfl, hn, acc, h1, h2, h3⟩⟩
      · intro H1 ⟨h1, s1⟩
        rw [show (vInts ns).length = ns.length from List.length_map .., List.take_length] at h1
        exact fin D H1 h1 s1
    · refine .inr ⟨_, rfl, p, rfl, ⟨_, hS⟩, fun D hD => lc_it (walk_tup (K := K) (a := p) (xs := vInts ns)) (Pv D) ⟨upd_same, same_new (Same.refl H) hD⟩ (fun i H1 _ q => Same.tup q.2 hS) ?_ ?_⟩
      · rintro i x H1 H2 hi q ⟨rfl, hx⟩
        obtain ⟨n, rfl, hn, acc, h1, h2, h3⟩ := turn D hD i x H2 q hx
        exact ⟨rfl, ⟨_, rfl, n, rfl, hn, acc, h1, h2, h3⟩⟩
      · intro H1 ⟨h1, s1⟩
        rw [show (vInts ns).length = ns.length from List.length_map .., List.take_length] at h1
        exact fin D H1 h1 s1
theorem scHex : FnScope ["data"] ["data"] (defScope sHex) := ⟨rfl, rfl, rfl, by decide +kernel, rfl, by decide +kernel, by decide +kernel⟩
theorem ok_hex {f : Addr} {fd fdC fdO : FuncData} (F : Fun K "hex_text" "hex_text" sHex f fd) (T : Txt K mg a) (FC : Fun K "check_bytes" "check_bytes" sChk a.fChk fdC) (bC : Binds K fdC ["data"] []) (GC : FnOk P w K mg base (L2.CX P w) 3 a.fChk fdC ["data"] (spChk K a.cB))
    (FO : Fun K "hex_octets" "hex_octets" sOcts a.fOcts fdO) (bO : Binds K fdO ["octets"] []) (GO : FnOk P w K mg base CX0 2 a.fOcts fdO ["octets"] (spOcts K)) : FnOk P w K mg base (L2.CX P w) 4 f fd ["data"] (spHex K a.cB) := by
  refine F.okX scHex (fun vs H Q E h => ?_) (fun cdv A outer s H vs Q E hr h => ?_)
  · obtain ⟨p, xs, rfl, _⟩ := h
    rfl
  · obtain ⟨p, xs, rfl, hS, hK, hl, hbad, hgood⟩ := h
    refine ⟨_, pss_cons (ps_expr (pe_call GC hr rfl T.gChk FC.kp bC .nil (passes_call (takes_of rfl rfl rfl rfl) (fun _ _ _ _ q => q)) (pa_cons (pv 0) pa_nil)))
      (pss_one (ps_ret (pe_call GO (hr.mono (by decide)) rfl T.gOcts FO.kp bO .nil pass0 (pa_cons (pv 0) pa_nil)))), ?_⟩
    refine ⟨_, rfl, p, xs, rfl, hS, hK, hbad, fun hn H' s1 => ?_⟩
    obtain ⟨ns, hb, rfl⟩ := bytes_of hn
    refine ⟨_, rfl, p, ns, rfl, hS.imp (fun z => s1.seq z) (fun z => Same.tup s1 z), hb, ?_, fun H2 s2 => hgood ns rfl hb H2 (s1.trans s2)⟩
    rw [show (vInts ns).length = ns.length from List.length_map ..] at hl
    exact hl
end
end G58

set_option Elab.async false
set_option linter.all false
set_option maxRecDepth 100000
set_option maxHeartbeats 4000000
/-! k74: read_hex. -/
namespace G58
open PySem PySem.Spec PyProof.Rows L2 TL
theorem ifNeT {c A B : Prop} [Decidable c] (hc : ¬ c) (h : A) : if (!decide c) = true then A else B := by
  rw [decide_eq_false hc]
  exact iteT h
theorem slice_ev (n : Nat) : Builtin.Str.strSliceIndices none none 2 n = (List.range ((n + 1) / 2)).map fun k => 2 * k := by
  unfold Builtin.Str.strSliceIndices
  show sliceRange 0 (n : Int) 2 = _
  unfold sliceRange
  show (List.range (if (2 : Int) > 0 then (if (0 : Int) < (n : Int) then ((n : Int) - 0 + 2 - 1) / 2 else 0) else _).toNat).map (fun k : Nat => ((0 : Int) + 2 * (k : Int)).toNat) = _
  rw [if_pos (by decide)]
  have e : (if (0 : Int) < (n : Int) then ((n : Int) - 0 + 2 - 1) / 2 else 0).toNat = (n + 1) / 2 := by
    by_cases h : (0 : Int) < (n : Int)
    · rw [if_pos h]
      omega
    · rw [if_neg h]
      have : n = 0 := by omega
      subst this
      rfl
  rw [e]
  refine List.map_congr_left fun k _ => ?_
  omega
theorem slice_od (n : Nat) : Builtin.Str.strSliceIndices (some 1) none 2 n = (List.range (n / 2)).map fun k => 1 + 2 * k := by
  unfold Builtin.Str.strSliceIndices
  show sliceRange (max 0 (min 1 (n : Int))) (n : Int) 2 = _
  unfold sliceRange
  show (List.range (if (2 : Int) > 0 then (if max 0 (min 1 (n : Int)) < (n : Int) then ((n : Int) - max 0 (min 1 (n : Int)) + 2 - 1) / 2 else 0) else _).toNat).map (fun k : Nat => (max 0 (min 1 (n : Int)) + 2 * (k : Int)).toNat) = _
  rw [if_pos (by decide)]
  have e : (if max 0 (min 1 (n : Int)) < (n : Int) then ((n : Int) - max 0 (min 1 (n : Int)) + 2 - 1) / 2 else 0).toNat = n / 2 := by
    by_cases h : max 0 (min 1 (n : Int)) < (n : Int)
    · rw [if_pos h]
      omega
    · rw [if_neg h]
      omega
  rw [e]
  refine List.map_congr_left fun k hk => ?_
  have : k < n / 2 := List.mem_range.mp hk
  omega
theorem step_tl (z : Str) (lo : Option Int) : tl (stepS z lo none 2) = (Builtin.Str.strSliceIndices lo none 2 z.length).filterMap ((tl z)[·]?) := by
  show (Builtin.Str.strSliceIndices lo none 2 z.length).filterMap (z.cps[·]?) = _
  have e : (fun k : Nat => z.cps[k]?) = fun k : Nat => (tl z)[k]? := by
    funext k
    exact (Array.getElem?_toList ..).symm
  exact congrArg (fun g => (Builtin.Str.strSliceIndices lo none 2 z.length).filterMap g) e
theorem step_ev (z : Str) : stepS z none none 2 = strOf (evens (tl z)) := by
  refine ext_tl ?_
  rw [step_tl, slice_ev, len_tl, pick_evens]
theorem step_od (z : Str) : stepS z (some 1) none 2 = strOf (odds (tl z)) := by
  refine ext_tl ?_
  rw [step_tl, slice_od, len_tl, pick_odds]
theorem evens_len : ∀ l : List Nat, (evens l).length = (l.length + 1) / 2
  | [] => rfl
  | [a] => by
    show 1 = (1 + 1) / 2
    rfl
  | a :: b :: r => by
    show (evens r).length + 1 = (r.length + 1 + 1 + 1) / 2
    rw [evens_len r]
    omega
theorem odds_len : ∀ l : List Nat, (odds l).length = l.length / 2
  | [] => rfl
  | [a] => by
    show 0 = 1 / 2
    rfl
  | a :: b :: r => by
    show (odds r).length + 1 = (r.length + 1 + 1) / 2
    rw [odds_len r]
    omega
section
variable {P : Program} {w : World} {K : PySem.W.Frag} {mg : Str → Option Value} {base : Heap} {a : Ad}
theorem scRead : FnScope ["text", "place", "sign", "one", "other"] ["text"] (defScope sRead) := ⟨rfl, rfl, rfl, by decide +kernel, rfl, by decide +kernel, by decide +kernel⟩
theorem ok_read {f : Addr} {fd fdE : FuncData} (F : Fun K "read_hex" "read_hex" sRead f fd) (T : Txt K mg a) (FE : Fun K "__init__" "BadText.__init__" sInitT a.fiT fdE) (bE : Binds K fdE ["self", "place"] []) :
    FnOk P w K mg base (L2.CX P w) 3 f fd ["text"] (spRead a.cT) := by
  have GE : FnOk P w K mg base CX0 1 a.fiT fdE ["self", "place"] (spEI a.cT) := ok_initT FE T.xT
  refine F.okX scRead (fun vs H Q E h => ?_) (fun cdv A outer s H vs Q E hr h => ?_)
  · obtain ⟨z, rfl, _⟩ := h
    rfl
  · obtain ⟨z, rfl, hl, hbad, hgood⟩ := h
    obtain ⟨t, gH⟩ := T.gHEX
    have hs : z.length ≤ sizeLine := Nat.le_trans hl (by decide)
    refine ⟨_, pss_cons (ps_for (passes_of rfl) rfl (pi_enumS (by rfl) T.bEnum (pa_cons (pv 0) pa_nil))
        (pg_tup rfl (pgs_cons (pg_name (i := 1) scRead.nd rfl (.inl rfl)) (pgs_cons (pg_name (i := 2) scRead.nd rfl (.inl rfl)) pgs_nil)))
        (pss_one (ps_if (pt_cmpR op_notIn_sign (pv 2) (pe_glob (v := .str HX) rfl gH ⟨_, rfl⟩) rfl)
          (pss_one (ps_raise rfl (takes_of rfl rfl rfl rfl) (pmk_oex T.xT.ox T.xT.ini T.xT.ti GE hr bE .nil pass0 rfl T.gT (pa_cons (pv 1) pa_nil)))) pss_nil)))
      (pss_cons (ps_if (pt_cmpR op_ne (pe_op op_mul (pe_op op_fdiv (pe_callB call_len_str (by rfl) T.bLen PySem.boot_len (pa_cons (pv 0) pa_nil)) pe_int) pe_int) (pe_callB call_len_str (by rfl) T.bLen PySem.boot_len (pa_cons (pv 0) pa_nil)) (nomark _))
          (pss_one (ps_raise rfl (takes_of rfl rfl rfl rfl) (pmk_oex T.xT.ox T.xT.ini T.xT.ti GE hr bE .nil pass0 rfl T.gT (pa_cons (pe_callB call_len_str (by rfl) T.bLen PySem.boot_len (pa_cons (pv 0) pa_nil)) pa_nil)))) pss_nil)
      (pss_one (ps_ret (pe_lc (own := [("one", 3), ("other", 4)]) (g := gTup K 2 (gCons (gName 3) (gCons (gName 4) gNil))) (tt := tYes) rfl scRead.nd
        (pi_zipS (by rfl) T.bZip (pa_cons (pe_stepS (pv 0) po_none po_none (po_some pe_int)) (pa_cons (pe_stepS (pv 0) (po_some pe_int) po_none (po_some pe_int)) pa_nil)))
        (blkOk_by (N := ["text", "place", "sign", "one", "other"]) (sc := defScope sRead) (by decide +kernel))
        (fun _ _ _ _ _ => pg_tup rfl (pgs_cons (pg_name (i := 3) scRead.nd rfl (.inl rfl)) (pgs_cons (pg_name (i := 4) scRead.nd rfl (.inl rfl)) pgs_nil))) (fun _ _ _ _ _ => pts_nil)
        (fun _ _ _ _ _ => pe_op op_add (pe_op op_mul pe_int (pe_m1 PySem.F.slot_str_index PySem.F.type_str_index mt_sindex (pe_glob (v := .str HX) rfl gH ⟨_, rfl⟩) (pv 3))) (pe_m1 PySem.F.slot_str_index PySem.F.type_str_index mt_sindex (pe_glob (v := .str HX) rfl gH ⟨_, rfl⟩) (pv 4))))))), ?_⟩
    let Pv : Nat → L2.St → Hp → Prop := fun i st H1 => ∃ u1 u2, st = [some (.str z), u1, u2, none, none] ∧ Same H H1 ∧ ∀ j c, j < i → (tl z)[j]? = some c → isHex c = true
    refine ⟨_, rfl, z, rfl, for_it walkP Pv ⟨none, none, rfl, Same.refl H, fun j c hj => absurd hj (Nat.not_lt_zero j)⟩ (fun _ _ _ _ _ => True.intro) ?_ ?_⟩
    · rintro i x st H1 H2 hi ⟨u1, u2, rfl, s1, hall⟩ ⟨T', x1, y1, rfl, hT', rfl, rfl, c, hc, rfl⟩
      have hc' : (tl z)[i]? = some c := (Array.getElem?_toList ..).trans hc
      have s2 : Same H (upd H1 T' (.tup [.int (i : Nat), .str (sgn c)])) := same_new s1 hT'
      refine ⟨T', _, rfl, .inl (.inl upd_same), rfl, _, _, rfl, _, _, rfl, rfl, ?_⟩
      refine ⟨_, rfl, c, HX, rfl, rfl, _, rfl, ?_⟩
      have ed : decide (c ∈ HX.cps.toList) = isHex c := by
        rw [hx_cps]
        unfold isHex
        simp
      rw [ed]
      cases hb : isHex c with
      | true =>
        refine iteF ⟨_, _, rfl, s2, fun j d hj hd => ?_⟩
        rcases Nat.lt_succ_iff_lt_or_eq.mp hj with q | q
        · exact hall j d q hd
        · rw [q, hc'] at hd
          cases hd
          exact hb
      | false =>
        refine iteT ⟨_, rfl, by show 1 ≤ 1000; decide, mk_read fun d hd => ?_⟩
        refine hbad i ?_ d _ (same_new s2 hd) upd_same
        unfold rdOut
        rw [find_first hc' (fun j d hj hd => by rw [hall j d hj hd]; rfl) (by rw [hb]; rfl)]
    · rintro st H1 ⟨u1, u2, rfl, s1, hall⟩
      have hex : ∀ c ∈ tl z, isHex c = true := fun c hc => by
        obtain ⟨j, hj, e⟩ := List.mem_iff_getElem.mp hc
        refine hall j c ?_ (by rw [List.getElem?_eq_getElem hj, e])
        rw [← Array.length_toList]
        exact hj
      have hlen : z.length = (tl z).length := len_tl z
      refine ⟨_, rfl, z, rfl, hs, _, _, rfl, rfl, ⟨by decide, by decide⟩, _, _, rfl, rfl, .inr ⟨by decide, by decide⟩, _, rfl, z, rfl, hs, rfl, _, rfl, ?_⟩
      by_cases he : (tl z).length % 2 = 0
      · have e0 : ((z.length : Nat) : Int) / 2 * 2 = (z.length : Nat) := by
          rw [hlen]
          omega
        refine iteNS (congrArg V.int e0) ?_
        have eA : (strOf (evens (tl z))).length ≤ sizeLine := by
          rw [len_strOf, evens_len, ← hlen]
          exact Nat.le_trans (by omega : (z.length + 1) / 2 ≤ 1000) (by decide)
        have eB : (strOf (odds (tl z))).length ≤ sizeLine := by
          rw [len_strOf, odds_len, ← hlen]
          exact Nat.le_trans (by omega : z.length / 2 ≤ 1000) (by decide)
        refine ⟨_, rfl, 2, rfl, z, 2, rfl, rfl, by decide, by decide, by rw [step_ev]; exact eA, _, rfl, 1, rfl, 2, rfl, z, 2, rfl, rfl, by decide, by decide, by rw [step_od]; exact eB, _, _, rfl, fun D hD => ?_⟩
        rw [step_ev, step_od]
        have hD0 : H D = none := s1.free hD
        have hn : min (strOf (evens (tl z))).cps.size (strOf (odds (tl z))).cps.size = (rdL (tl z)).length := by
          show min (evens (tl z)).toArray.size (odds (tl z)).toArray.size = _
          rw [List.size_toArray, List.size_toArray, evens_len, odds_len, rdL_len]
          omega
        rw [hn]
        refine lc_it walkP (fun i H2 => H2 D = some (.lst (vInts ((rdL (tl z)).take i))) ∧ Same H H2) ⟨upd_same, same_new s1 hD⟩ (fun _ _ _ _ => True.intro) ?_ ?_
        · rintro i x H2 H3 hi ⟨h1, s2⟩ ⟨T', x1, y1, rfl, hT', rfl, c, d, hc, hd, rfl, rfl⟩
          have hc' : (tl z)[2 * i]? = some c := by
            rw [← evens_get]
            exact (Array.getElem?_toList (xs := (evens (tl z)).toArray)).trans hc
          have hd' : (tl z)[2 * i + 1]? = some d := by
            rw [← odds_get]
            exact (Array.getElem?_toList (xs := (odds (tl z)).toArray)).trans hd
          have mc : c ∈ hexCs := by
            have q := hex c (List.mem_of_getElem? hc')
            unfold isHex at q
            simpa using q
          have md : d ∈ hexCs := by
            have q := hex d (List.mem_of_getElem? hd')
            unfold isHex at q
            simpa using q
          have hg : (rdL (tl z))[i]? = some (16 * hexCs.idxOf c + hexCs.idxOf d) := by
            rw [rdL_get, hc', hd']
          refine ⟨T', _, rfl, .inl (.inl upd_same), rfl, _, _, rfl, _, _, rfl, rfl, rfl, ?_⟩
          refine ⟨⟨_, rfl⟩, _, rfl, HX, _, _, _, rfl, rfl, hx_occ c mc, _, _, rfl, rfl, .inl ⟨by decide, by decide⟩, ⟨_, rfl⟩, _, rfl, HX, _, _, _, rfl, rfl, hx_occ d md, _, _, rfl, rfl, ?_⟩
          have hTD : D ≠ T' := ne_of_none h1 hT'
          refine ⟨vInts ((rdL (tl z)).take i), by rw [upd_ne hTD]; exact h1, ?_, ?_, ?_⟩
          · rw [List.length_map, List.length_take]
            refine Nat.lt_of_le_of_lt (Nat.min_le_right _ _) ?_
            rw [rdL_len, ← hlen]
            exact Nat.lt_of_le_of_lt (by omega : z.length / 2 ≤ 1000) (by decide)
          · rw [upd_same, List.take_add_one, hg]
            simp
          · intro b o e
            rw [upd_ne (ne_of_none e hD0), upd_ne (ne_of_none (s2 b o e) hT')]
            exact s2 b o e
        · rintro H2 ⟨h1, s2⟩
          rw [List.take_length] at h1
          exact hgood _ (rdOut_good hex he) D H2 hD0 s2 h1
      · have e0 : ¬ (V.int (((z.length : Nat) : Int) / 2 * 2) = V.int (z.length : Nat)) := fun q => by
          have q' := V.int.inj q
          rw [hlen] at q'
          omega
        refine ifNeT e0 ⟨_, rfl, z, rfl, hs, by show 1 ≤ 1000; decide, mk_read fun d hd => ?_⟩
        rw [hlen]
        exact hbad _ (rdOut_odd hex (by omega)) d _ (same_new s1 hd) upd_same
end
end G58

set_option Elab.async false
set_option linter.all false
set_option maxRecDepth 100000
set_option maxHeartbeats 4000000
/-! k74: the law's source of draws, its picks, its own digits. -/
namespace G58
open PySem PySem.Spec PyProof.Rows L2 TL
abbrev sSrc : Stmt := topS 16
abbrev sDraw : Stmt := topS 17
abbrev sPick : Stmt := topS 18
abbrev sLhex : Stmt := topS 19
structure Ld where
  (fSrc fDraw fPick fLhex fSaid fBent fRight : Addr)
structure LTx (mg : Str → Option Value) (l : Ld) : Prop where
  gSrc : mg "_law_source" = some (.ref l.fSrc)
  gDraw : mg "_law_draw" = some (.ref l.fDraw)
  gPick : mg "_law_pick" = some (.ref l.fPick)
  gLhex : mg "_law_hex" = some (.ref l.fLhex)
  gSaid : mg "_law_said" = some (.ref l.fSaid)
  gBent : mg "_law_bent" = some (.ref l.fBent)
  gRight : mg "_law_right" = some (.ref l.fRight)
  bAbs : mg "abs" = none
  bInt : mg "int" = none
  bLen : mg "len" = none
  bRange : mg "range" = none
  bList : mg "list" = none
  bTuple : mg "tuple" = none
  bIsi : mg "isinstance" = none
/-- a source stands at S -/
def SrcAt (H : Hp) (S : Addr) : Prop := ∃ x y z : Int, H S = some (.lst [.int x, .int y, .int z])
def spSrc : Sp := fun vs H Q _ => ∃ n : Int, vs = [.int n] ∧ ∀ p H', H p = none → Same H H' → SrcAt H' p → Q (.ref p) H'
/-- all that was tracked stays but what is at S -/
def But (S : Addr) (H H' : Hp) : Prop := ∀ b o, H b = some o → b ≠ S → H' b = some o
theorem But.refl (S : Addr) (H : Hp) : But S H H := fun _ _ h _ => h
theorem But.trans {S : Addr} {H H1 H2 : Hp} (x : But S H H1) (y : But S H1 H2) : But S H H2 := fun b o h n => y b o (x b o h n) n
theorem But.same {S : Addr} {H H1 H2 : Hp} (x : But S H H1) (y : Same H1 H2) : But S H H2 := fun b o h n => y b o (x b o h n)
theorem But.upd {S : Addr} {H : Hp} {o : HO} : But S H (L2.upd H S o) := fun b u h n => by
  rw [upd_ne n]
  exact h
theorem Same.but {S : Addr} {H H1 : Hp} (x : Same H H1) : But S H H1 := fun b o h _ => x b o h
def spDraw : Sp := fun vs H Q _ => ∃ (S : Addr) (m : Int), vs = [.ref S, .int m] ∧ SrcAt H S ∧ 0 < m ∧ m < 1073741824 ∧ ∀ (r : Int) (H' : Hp), 0 ≤ r → r < m → SrcAt H' S → But S H H' → (∀ b, H b = none → H' b = none) → Q (.int r) H'
def spPick : Sp := fun vs H Q _ => ∃ (S L : Addr) (xs : List V), vs = [.ref S, .ref L] ∧ SrcAt H S ∧ H L = some (.lst xs) ∧ L ≠ S ∧ 0 < xs.length ∧ xs.length < 1000 ∧ ∀ (i : Nat) (x : V) (H' : Hp), xs[i]? = some x → SrcAt H' S → But S H H' → (∀ b, H b = none → H' b = none) → Q x H'
def spLhex (K : PySem.W.Frag) : Sp := fun vs H Q _ => ∃ (p : Addr) (ns : List Nat), vs = [.ref p] ∧ SqL K H p (vInts ns) ∧ Bytes ns ∧ ns.length ≤ 1000 ∧ ∀ H', Same H H' → Q (.str (strOf (hexL ns))) H'
section
variable {P : Program} {w : World} {K : PySem.W.Frag} {mg : Str → Option Value} {base : Heap} {l : Ld}
theorem scSrc : FnScope ["_law_cell"] ["_law_cell"] (defScope sSrc) := ⟨rfl, rfl, rfl, by decide +kernel, rfl, by decide +kernel, by decide +kernel⟩
theorem ok_src {f : Addr} {fd : FuncData} (F : Fun K "_law_source" "_law_source" sSrc f fd) (T : LTx mg l) : FnOk P w K mg base CX0 1 f fd ["_law_cell"] spSrc := by
  refine F.ok scSrc (fun vs H Q E h => ?_) (fun cdv A outer s H vs Q E hr h => ?_)
  · obtain ⟨n, rfl, _⟩ := h
    rfl
  · obtain ⟨n, rfl, k⟩ := h
    refine ⟨_, pss_one (ps_ret (pe_lst (pa_cons (pe_callB call_abs (by rfl) T.bAbs (by decide +kernel) (pa_cons (pv 0) pa_nil))
      (pa_cons (pe_op op_mod (pe_callTy call_int1 (by rfl) T.bInt (by decide +kernel) (pa_cons (pv 0) pa_nil)) pe_int) (pa_cons pe_int pa_nil))))), ?_⟩
    refine ⟨_, rfl, n, rfl, _, rfl, .inl ⟨_, rfl, _, _, rfl, rfl, by show (0 : Int) < 2147483629; decide, by show 3 ≤ sizeLine; decide, fun p hp => ?_⟩⟩
    exact k p _ hp (same_new (Same.refl H) hp) ⟨_, _, _, upd_same⟩
theorem scDraw : FnScope ["_law_source_here", "_law_many", "_law_found", "_law_mixed"] ["_law_source_here", "_law_many"] (defScope sDraw) := ⟨rfl, rfl, rfl, by decide +kernel, rfl, by decide +kernel, by decide +kernel⟩
theorem ok_draw {f : Addr} {fd : FuncData} (F : Fun K "_law_draw" "_law_draw" sDraw f fd) (T : LTx mg l) : FnOk P w K mg base CX0 1 f fd ["_law_source_here", "_law_many"] spDraw := by
  refine F.ok scDraw (fun vs H Q E h => ?_) (fun cdv A outer s H vs Q E hr h => ?_)
  · obtain ⟨S, m, rfl, _⟩ := h
    rfl
  · obtain ⟨S, m, rfl, ⟨x, y, z, hS⟩, h0, h1, k⟩ := h
    refine ⟨_, pss_cons (ps_if (pt_cmpR op_ge (pe_ix ix_list (pv 0) pe_int (fun _ _ => rfl)) (pe_op op_pow pe_int pe_int) (nomark _))
        (pss_cons (ps_set (i := 2) scDraw.nd rfl (.inl rfl) (pe_op op_mod (pe_callTy call_int1 (by rfl) T.bInt (by decide +kernel) (pa_cons (pe_ix ix_list (pv 0) pe_int (fun _ _ => rfl)) pa_nil)) (pv 1)))
        (pss_cons (ps_asg (pe_op op_fdiv (pe_ix ix_list (pv 0) pe_int (fun _ _ => rfl)) (pv 1)) (pg_sub (pv 0) pe_int set_list))
        (pss_one (ps_ret (pv 2))))) pss_nil)
      (pss_cons (ps_asg (pe_op op_add (pe_ix ix_list (pv 0) pe_int (fun _ _ => rfl)) pe_int) (pg_sub (pv 0) pe_int set_list))
      (pss_cons (ps_set (i := 3) scDraw.nd rfl (.inl rfl) (pe_op op_mod (pe_callTy call_int1 (by rfl) T.bInt (by decide +kernel) (pa_cons
        (pe_op op_mul (pe_op op_add (pe_op op_add (pe_ix ix_list (pv 0) pe_int (fun _ _ => rfl)) (pe_op op_mul pe_int (pe_ix ix_list (pv 0) pe_int (fun _ _ => rfl)))) pe_int) pe_int) pa_nil)) pe_int))
      (pss_cons (ps_set (i := 3) scDraw.nd rfl (.inl rfl) (pe_op op_mod (pe_callTy call_int1 (by rfl) T.bInt (by decide +kernel) (pa_cons
        (pe_op op_mul (pv 3) (pe_op op_add (pe_op op_fdiv (pv 3) pe_int) pe_int)) pa_nil)) pe_int))
      (pss_one (ps_ret (pe_op op_mod (pe_callTy call_int1 (by rfl) T.bInt (by decide +kernel) (pa_cons (pe_op op_mod (pe_callTy call_int1 (by rfl) T.bInt (by decide +kernel) (pa_cons
        (pe_op op_add (pe_op op_fdiv (pv 3) pe_int) (pe_op op_mul (pe_op op_mod (pe_callTy call_int1 (by rfl) T.bInt (by decide +kernel) (pa_cons (pv 3) pa_nil)) pe_int) pe_int)) pa_nil)) pe_int) pa_nil)) (pv 1))))))), ?_⟩
    have at0 : ∀ {u v t : V}, atI [u, v, t] 0 = some u := rfl
    have at1 : ∀ {u v t : V}, atI [u, v, t] 1 = some v := rfl
    have at2 : ∀ {u v t : V}, atI [u, v, t] 2 = some t := rfl
    have fr : ∀ {o : HO}, ∀ b, H b = none → (upd H S o) b = none := fun b hb => by
      rw [upd_ne (ne_of_none hS hb).symm]
      exact hb
    refine ⟨_, rfl, S, _, _, _, rfl, rfl, .inl (.inl hS), at0, _, _, rfl, rfl, ⟨by decide, by decide, by decide⟩, _, _, rfl, rfl, _, rfl, ?_⟩
    refine ite2 (fun _ => ?_) (fun _ => ?_)
    · refine ⟨_, rfl, S, _, _, _, rfl, rfl, .inl (.inl hS), at0, .inl ⟨_, rfl, _, rfl, _, _, rfl, rfl, h0, ?_⟩⟩
      refine ⟨_, rfl, S, _, _, _, rfl, rfl, .inl (.inl hS), at0, _, rfl, _, _, rfl, rfl, ⟨h0, h1⟩, _, rfl, S, _, _, 0, rfl, rfl, hS, rfl, ?_⟩
      refine ⟨_, rfl, k _ _ (Int.emod_nonneg _ (by omega)) (Int.emod_lt_of_pos _ h0) ⟨_, _, _, upd_same⟩ But.upd fr⟩
    · refine ⟨_, rfl, S, _, _, _, rfl, rfl, .inl (.inl hS), at2, _, _, rfl, rfl, _, rfl, S, _, _, 2, rfl, rfl, hS, rfl, ?_⟩
      refine ⟨_, rfl, S, _, _, _, rfl, rfl, .inl (.inl upd_same), at1, _, rfl, S, _, _, _, rfl, rfl, .inl (.inl upd_same), at2, _, _, rfl, rfl, .inl ⟨by decide, by decide⟩, _, _, rfl, rfl, _, _, rfl, rfl, _, _, rfl, rfl, .inr ⟨by decide, by decide⟩,
        .inl ⟨_, rfl, _, _, rfl, rfl, by show (0 : Int) < 2147483647; decide, ?_⟩⟩
      generalize hm : ((y + 7919 * (z + 1) + 1) * 48271 : Int) % 2147483647 = q
      have q0 : 0 ≤ q := by rw [← hm]; exact Int.emod_nonneg _ (by decide)
      have q1 : q < 2147483647 := by rw [← hm]; exact Int.emod_lt_of_pos _ (by decide)
      refine ⟨_, rfl, _, rfl, _, _, rfl, rfl, ⟨by decide, by decide⟩, _, _, rfl, rfl, _, _, rfl, rfl, .inl ⟨by omega, by omega⟩, .inl ⟨_, rfl, _, _, rfl, rfl, by show (0 : Int) < 2147483587; decide, ?_⟩⟩
      refine ⟨_, rfl, _, _, rfl, rfl, ⟨by decide, by decide⟩, _, rfl, .inl ⟨_, rfl, _, _, rfl, rfl, by show (0 : Int) < 7919; decide, _, _, rfl, rfl, .inr ⟨by decide, by decide⟩, _, _, rfl, rfl, .inl ⟨_, rfl, _, _, rfl, rfl, by show (0 : Int) < 2147483399; decide,
        .inl ⟨_, rfl, _, rfl, _, _, rfl, rfl, h0, ?_⟩⟩⟩⟩
      exact k _ _ (Int.emod_nonneg _ (by omega)) (Int.emod_lt_of_pos _ h0) ⟨_, _, _, upd_same⟩ But.upd fr
theorem scPick : FnScope ["_law_source_here", "_law_items"] ["_law_source_here", "_law_items"] (defScope sPick) := ⟨rfl, rfl, rfl, by decide +kernel, rfl, by decide +kernel, by decide +kernel⟩
theorem ok_pick {f : Addr} {fd fdD : FuncData} (F : Fun K "_law_pick" "_law_pick" sPick f fd) (T : LTx mg l) (FD : Fun K "_law_draw" "_law_draw" sDraw l.fDraw fdD) (bD : Binds K fdD ["_law_source_here", "_law_many"] []) :
    FnOk P w K mg base CX0 2 f fd ["_law_source_here", "_law_items"] spPick := by
  have GD : FnOk P w K mg base CX0 1 l.fDraw fdD ["_law_source_here", "_law_many"] spDraw := ok_draw FD T
  refine F.ok scPick (fun vs H Q E h => ?_) (fun cdv A outer s H vs Q E hr h => ?_)
  · obtain ⟨S, L, xs, rfl, _⟩ := h
    rfl
  · obtain ⟨S, L, xs, rfl, hS, hL, ne, l0, l1, k⟩ := h
    refine ⟨_, pss_one (ps_ret (pe_ix ix_list (pv 1) (pe_call GD hr rfl T.gDraw FD.kp bD .nil pass0 (pa_cons (pv 0) (pa_cons (pe_callB call_len_seq (by rfl) T.bLen PySem.boot_len (pa_cons (pv 1) pa_nil)) pa_nil))) (fun _ _ => rfl))), ?_⟩
    refine ⟨_, rfl, _, rfl, _, rfl, L, xs, rfl, .inl (.inl (.inl hL)), S, _, rfl, hS, by omega, by omega, fun r H' r0 r1 hS' hB hF => ?_⟩
    have hi : r.toNat < xs.length := by omega
    refine ⟨L, xs, r, xs[r.toNat], rfl, rfl, .inl (.inl (hB L _ hL ne)), ?_, k r.toNat _ H' (by simp [hi]) hS' hB hF⟩
    exact at_of (j := r.toNat) (by omega) (by simp [hi])
theorem scLhex : FnScope ["_law_some", "_law_digits", "_law_one"] ["_law_some"] (defScope sLhex) := ⟨rfl, rfl, rfl, by decide +kernel, rfl, by decide +kernel, by decide +kernel⟩
theorem ok_lhex {f : Addr} {fd : FuncData} (F : Fun K "_law_hex" "_law_hex" sLhex f fd) (T : LTx mg l) : FnOk P w K mg base CX0 1 f fd ["_law_some"] (spLhex K) := by
  refine F.ok scLhex (fun vs H Q E h => ?_) (fun cdv A outer s H vs Q E hr h => ?_)
  · obtain ⟨p, ns, rfl, _⟩ := h
    rfl
  · obtain ⟨p, ns, rfl, hS, hb, hl, k⟩ := h
    refine ⟨_, pss_cons (ps_set (i := 1) scLhex.nd rfl (.inr rfl) pe_str) (pss_one (ps_ret (pe_join pe_str (pe_lc (own := [("_law_one", 2)]) (g := gName 2) (tt := tYes) rfl scLhex.nd (pi_list (pv 0))
      (blkOk_by (N := ["_law_some", "_law_digits", "_law_one"]) (sc := defScope sLhex) (by decide +kernel)) (fun _ _ _ _ _ => pg_name (i := 2) scLhex.nd rfl (Or.inl rfl)) (fun _ _ _ _ _ => pts_nil)
      (fun _ _ _ _ _ => pe_op op_add_str (pe_item_str (pv 1) (pe_op op_fdiv (pv 2) pe_int) (fun _ _ => rfl)) (pe_item_str (pv 1) (pe_op op_mod (pe_callTy call_int1 (by rfl) T.bInt (by decide +kernel) (pa_cons (pv 2) pa_nil)) pe_int) (fun _ _ => rfl))))))), ?_⟩
    refine ⟨⟨_, rfl⟩, _, rfl, p, rfl, ⟨_, hS⟩, fun D hD => lc_it (walk_list (K := K) (a := p) (xs := vInts ns)) (fun i H1 => H1 D = some (.lst (((ns.take i).map fun n => strOf (hexN n)).map V.str)) ∧ Same H H1) ⟨upd_same, same_new (Same.refl H) hD⟩ (fun i H1 _ q => q.2.seq hS) ?_ ?_⟩
    · rintro i x H1 H2 hi ⟨h1, s1⟩ ⟨rfl, hx⟩
      rw [List.getElem?_map] at hx
      obtain ⟨n, hn, rfl⟩ := Option.map_eq_some_iff.mp hx
      have hn2 : n < 256 := hb n (List.mem_of_getElem? hn)
      have e1 : (n : Int) / 16 = ((n / 16 : Nat) : Int) := by omega
      have e2 : (n : Int) % 16 = ((n % 16 : Nat) : Int) := by omega
      have l1 : n / 16 < 16 := by omega
      have l2 : n % 16 < 16 := by omega
      refine ⟨rfl, ?_⟩
      refine ⟨_, rfl, _, rfl, _, _, rfl, rfl, ⟨by decide, by decide⟩, HX, _, dig (n / 16), rfl, rfl, by omega, by omega, by rw [hx_len]; omega, ?_, ?_⟩
      · rw [e1, Int.toNat_natCast]
        exact hx_at l1
      refine ⟨_, rfl, _, rfl, .inl ⟨_, rfl, _, _, rfl, rfl, by show (0 : Int) < 16; decide, HX, _, dig (n % 16), rfl, rfl, by omega, by omega, by rw [hx_len]; omega, ?_, ?_⟩⟩
      · rw [e2, Int.toNat_natCast]
        exact hx_at l2
      refine ⟨_, _, rfl, rfl, by show 2 ≤ sizeLine; decide, _, h1, ?_, ?_, ?_⟩
      · rw [List.length_map, List.length_map, List.length_take]
        exact Nat.lt_of_le_of_lt (Nat.le_trans (Nat.min_le_right _ _) hl) (by decide)
      · rw [upd_same, List.take_add_one, hn]
        simp
        rfl
      · intro b o e
        rw [upd_ne (ne_of_none e hD)]
        exact s1 b o e
    · rintro H1 ⟨h1, s1⟩
      rw [show (vInts ns).length = ns.length from List.length_map .., List.take_length] at h1
      refine ⟨Str.empty, D, ns.map fun n => strOf (hexN n), rfl, rfl, .inl (.inl (.inl h1)), ?_, ?_⟩
      · have e : ∀ l : List Nat, ((l.map fun n => strOf (hexN n)).map (·.length)).sum = 2 * l.length := by
          intro l
          induction l with
          | nil => rfl
          | cons m r ih =>
            show (strOf (hexN m)).length + ((r.map fun n => strOf (hexN n)).map (·.length)).sum = 2 * (r.length + 1)
            rw [ih, len_strOf]
            show 2 + 2 * r.length = _
            omega
        rw [e]
        show 2 * ns.length + _ * 0 ≤ _
        omega
      · rw [join_hex]
        exact k H1 s1
end
end G58

set_option Elab.async false
set_option linter.all false
set_option maxRecDepth 100000
set_option maxHeartbeats 4000000
/-! k74: what a call says. -/
namespace G58
open PySem PySem.Spec PyProof.Rows L2 TL LamX
abbrev sSaid : Stmt := topS 20
abbrev sBent : Stmt := topS 21
abbrev sRight : Stmt := topS 22
abbrev sLaw : Stmt := topS 23
/-- which class is caught by which clause -/
structure Exm (K : PySem.W.Frag) (a : Ad) : Prop where
  bb : PySem.W.exmOne K (.ref a.cB) (.ref a.cB) = some true
  tb : PySem.W.exmOne K (.ref a.cT) (.ref a.cB) = some false
  tt : PySem.W.exmOne K (.ref a.cT) (.ref a.cT) = some true
def tup2 (x : Str) (v : V) : HO := .tup [.str x, v]
def QSaid (Q : VK) : VK := fun v H' => [V.str ("told" : Str), v].length ≤ sizeLine ∧ ∀ p, H' p = none → Q (.ref p) (upd H' p (tup2 "told" v))
def ESaid (a : Ad) (Q : VK) : XK := fun cls d H' => ∃ (dd : Addr) (v : V), d = some dd ∧ H' dd = some (.xd (plc v)) ∧
  ((cls = .ref a.cB ∧ ∀ p, H' p = none → Q (.ref p) (upd H' p (tup2 "bytes" v))) ∨ (cls = .ref a.cT ∧ ∀ p, H' p = none → Q (.ref p) (upd H' p (tup2 "text" v))))
def TSaid (a : Ad) : (XK → Hp → VK → Prop) → Hp → VK → Prop := fun tl H Q => tl (ESaid a Q) H (QSaid Q)
abbrev nSaid : List Str := ["_law_ask", "e"]
theorem scSaid : FnScope nSaid ["_law_ask"] (defScope sSaid) := ⟨rfl, rfl, rfl, by decide +kernel, rfl, by decide +kernel, by decide +kernel⟩
theorem look_plc (v : V) : (plc v).lookup ("place" : Str) = some v := by simp [List.lookup]
theorem said_gives {X : Cx} {a : Ad} {g : Addr} {cdg : Value} {q : Str} (T : Txt X.K X.mg a) (M : Exm X.K a) :
    GivesTo X nSaid "_law_said" (defScope sSaid) g cdg (defBody sSaid) "_law_ask" q (TSaid a) := by
  intro f c' s H Q tl act hc h
  refine ⟨_, pss_one (ps_try_mix (X := (cxOf C8.CX0 X.prog X.w X.K X.mg X.base nSaid "_law_said" (defScope sSaid) g cdg X.A X.stack s H C8.E0).nox)
      (l := [⟨.ref a.cB, some 1, _⟩, ⟨.ref a.cT, some 1, _⟩, ⟨.ref a.cN, none, _⟩])
      (tb := fun W D st H => ∃ Ech : XK, (∀ cls d st' H', Ech cls d H' → W cls d st' H') ∧ st[0]? = some (some (.ref f)) ∧ H c' = some (CodeO c' q) ∧ tl Ech H (QSaid D.rt))
      rfl rfl L2.takes0 (fun W pn xe tk _ => ?_)
      (.named scSaid.nd rfl rfl ⟨rfl, by decide, .inl T.gB⟩ (fun x oe k d pn hz hf => pss_one (ps_ret (pe_tup (pa_cons pe_str (pa_cons (pe_xf T.xB.xf T.xB.no hz hf (pv 1)) pa_nil)))))
      (.named scSaid.nd rfl rfl ⟨rfl, by decide, .inl T.gT⟩ (fun x oe k d pn hz hf => pss_one (ps_ret (pe_tup (pa_cons pe_str (pa_cons (pe_xf T.xT.xf T.xT.no hz hf (pv 1)) pa_nil)))))
      (.bare ⟨rfl, by decide, .inl T.gN⟩ (fun x oe k d pn hz hf => pss_one (ps_ret (pe_tup (pa_cons pe_str (pa_cons pe_non pa_nil))))) .nil)))), ?_⟩
  · refine ⟨fun pins s' st H' D I h' => ?_⟩
    obtain ⟨Ech, hW, h1, h2, h3⟩ := h'
    exact (pss_one (ps_ret (pe_tup (pa_cons pe_str (pa_cons (act W pn xe Ech _ _ tk hW) pa_nil))))).run pins s' st H' D I ⟨h1, h2, h3⟩
  · refine ⟨ESaid a Q, fun cls d st' H' hE => ?_, rfl, hc, h⟩
    obtain ⟨dd, v, rfl, hd, hE | hE⟩ := hE
    · obtain ⟨rfl, k⟩ := hE
      refine ⟨true, M.bb, fun _ x hx hlt => ?_, fun z => Bool.noConfusion z⟩
      exact ⟨.ref x, List.getElem?_set_self hlt, rfl, rfl, dd, _, v, rfl, hd, look_plc v, by show 2 ≤ sizeLine; decide, k⟩
    · obtain ⟨rfl, k⟩ := hE
      refine ⟨false, M.tb, fun z => Bool.noConfusion z, fun _ => ⟨true, M.tt, fun _ x hx hlt => ?_, fun z => Bool.noConfusion z⟩⟩
      exact ⟨.ref x, List.getElem?_set_self hlt, rfl, rfl, dd, _, v, rfl, hd, look_plc v, by show 2 ≤ sizeLine; decide, k⟩
end G58

set_option Elab.async false
set_option linter.all false
set_option maxRecDepth 100000
set_option maxHeartbeats 4000000
/-! k74: a text bent. -/
namespace G58
open PySem PySem.Spec PyProof.Rows L2 TL LamX
theorem cut_take (l : List Nat) (n : Nat) : cutS (strOf l) none (some (n : Int)) = strOf (l.take n) := by
  unfold cutS
  refine ext_tl ?_
  show (l.drop (HT.sIx _ 0 none)).take (HT.sIx _ _ (some (n : Int)) - HT.sIx _ 0 none) = l.take n
  rw [HT.sIx_none, HT.sIx_nat, List.drop_zero, Nat.sub_zero, len_strOf, Nat.min_comm, ← List.take_take, List.take_of_length_le (by rw [List.length_take]; omega)]
theorem cut_drop (l : List Nat) (n : Nat) : cutS (strOf l) (some (n : Int)) none = strOf (l.drop n) := by
  unfold cutS
  refine ext_tl ?_
  show (l.drop (HT.sIx _ 0 (some (n : Int)))).take (HT.sIx _ _ none - HT.sIx _ 0 (some (n : Int))) = l.drop n
  rw [HT.sIx_none, HT.sIx_nat, len_strOf]
  by_cases h : n ≤ l.length
  · rw [Nat.min_eq_left h, List.take_of_length_le (by rw [List.length_drop]; omega)]
  · rw [Nat.min_eq_right (by omega), List.drop_eq_nil_of_le (Nat.le_refl _), List.drop_eq_nil_of_le (by omega), List.take_nil]
/-- the twelve signs that are no digits -/
def oddS : List Nat := [103, 65, 70, 32, 45, 120, 46, 47, 58, 126, 91, 122]
theorem oddS_no : ∀ c ∈ oddS, isHex c = false := by decide
/-- what a bent text and its fault say of each other -/
def BentOk (ns : List Nat) (wd : Str) (fv : V) : Prop := wd.length ≤ 1000 ∧ ((fv = .non ∧ wd = strOf (hexL ns)) ∨ ∃ i : Nat, fv = .int (i : Nat) ∧ rdOut (tl wd) = .inl i)
def spBent : Sp := fun vs H Q _ => ∃ (S : Addr) (ns : List Nat), vs = [.ref S, .str (strOf (hexL ns))] ∧ Bytes ns ∧ ns.length ≤ 400 ∧ SrcAt H S ∧
  ∀ (p : Addr) (H' : Hp) (wd : Str) (fv : V), SrcAt H' S → But S H H' → H' p = some (.tup [.str wd, fv]) → BentOk ns wd fv → Q (.ref p) H'
abbrev nBent : List Str := ["_law_source_here", "_law_word", "_law_at", "_law_way", "_law_sign"]
theorem scBent : FnScope nBent ["_law_source_here", "_law_word"] (defScope sBent) := ⟨rfl, rfl, rfl, by decide +kernel, rfl, by decide +kernel, by decide +kernel⟩
theorem src_new {H : Hp} {S p : Addr} {o : HO} (hS : SrcAt H S) (hp : H p = none) : SrcAt (upd H p o) S := by
  obtain ⟨x, y, z, h⟩ := hS
  exact ⟨x, y, z, by rw [upd_ne (ne_of_none h hp)]; exact h⟩
section
variable {P : Program} {w : World} {K : PySem.W.Frag} {mg : Str → Option Value} {base : Heap} {l : Ld}
theorem ok_bent {f : Addr} {fd fdD fdP : FuncData} (F : Fun K "_law_bent" "_law_bent" sBent f fd) (T : LTx mg l) (FD : Fun K "_law_draw" "_law_draw" sDraw l.fDraw fdD) (bD : Binds K fdD ["_law_source_here", "_law_many"] [])
    (FP : Fun K "_law_pick" "_law_pick" sPick l.fPick fdP) (bP : Binds K fdP ["_law_source_here", "_law_items"] []) : FnOk P w K mg base CX0 3 f fd ["_law_source_here", "_law_word"] spBent := by
  have GD : FnOk P w K mg base CX0 1 l.fDraw fdD ["_law_source_here", "_law_many"] spDraw := ok_draw FD T
  have GP : FnOk P w K mg base CX0 2 l.fPick fdP ["_law_source_here", "_law_items"] spPick := ok_pick FP T FD bD
  refine F.ok scBent (fun vs H Q E h => ?_) (fun cdv A outer s H vs Q E hr h => ?_)
  · obtain ⟨S, ns, rfl, _⟩ := h
    rfl
  · obtain ⟨S, ns, rfl, hb, hl, hS, k⟩ := h
    have hr1 : Room 1 _ := hr.mono (by decide)
    refine ⟨_, pss_cons (ps_set (i := 2) scBent.nd rfl (.inl rfl) (pe_call GD hr1 rfl T.gDraw FD.kp bD .nil pass0 (pa_cons (pv 0) (pa_cons (pe_op op_add (pe_callB call_len_str (by rfl) T.bLen PySem.boot_len (pa_cons (pv 1) pa_nil)) pe_int) pa_nil))))
      (pss_cons (ps_set (i := 3) scBent.nd rfl (.inl rfl) (pe_call GD hr1 rfl T.gDraw FD.kp bD .nil pass0 (pa_cons (pv 0) (pa_cons pe_int pa_nil))))
      (pss_cons (ps_if (pt_cmpR op_eq (pv 3) pe_int (nomark _))
        (pss_cons (ps_set (i := 4) scBent.nd rfl (.inl rfl) (pe_call GP hr rfl T.gPick FP.kp bP .nil pass0 (pa_cons (pv 0) (pa_cons (pe_lst (pa_cons pe_str (pa_cons pe_str (pa_cons pe_str (pa_cons pe_str (pa_cons pe_str (pa_cons pe_str (pa_cons pe_str (pa_cons pe_str (pa_cons pe_str (pa_cons pe_str (pa_cons pe_str (pa_cons pe_str pa_nil))))))))))))) pa_nil))))
        (pss_one (ps_ret (pe_tup (pa_cons (pe_op op_add_str (pe_op op_add_str (pe_slice sl_str (pv 1) po_none (po_some (pv 2))) (pv 4))
          (pe_slice sl_str (pv 1) (po_some (pe_op op_add (pv 2) (pe_call GD hr1 rfl T.gDraw FD.kp bD .nil pass0 (pa_cons (pv 0) (pa_cons pe_int pa_nil))))) po_none)) (pa_cons (pv 2) pa_nil)))))) pss_nil)
      (pss_cons (ps_if (pt_cmpR op_eq (pv 3) pe_int (nomark _))
        (pss_one (ps_ret (pe_tup (pa_cons (pe_op op_add_str (pe_op op_add_str (pe_slice sl_str (pv 1) po_none (po_some (pv 2))) pe_str) (pe_slice sl_str (pv 1) (po_some (pv 2)) po_none))
          (pa_cons (pe_op op_add (pe_callB call_len_str (by rfl) T.bLen PySem.boot_len (pa_cons (pv 1) pa_nil)) pe_int) pa_nil))))) pss_nil)
      (pss_cons (ps_if (PW.pt (pw_and (pt_cmpR op_eq (pv 3) pe_int (nomark _)) (pw_and1 (pt_cmpR op_ne (pv 1) pe_str (nomark _)))))
        (pss_one (ps_ret (pe_tup (pa_cons (pe_slice sl_str (pv 1) (po_some pe_int) po_none) (pa_cons (pe_op op_sub (pe_callB call_len_str (by rfl) T.bLen PySem.boot_len (pa_cons (pv 1) pa_nil)) pe_int) pa_nil))))) pss_nil)
      (pss_one (ps_ret (pe_tup (pa_cons (pv 1) (pa_cons pe_non pa_nil))))))))), ?_⟩
    have hlen : (strOf (hexL ns)).length = (hexL ns).length := len_strOf _
    have hle : (hexL ns).length ≤ 800 := by rw [hexL_len]; omega
    have hz : (strOf (hexL ns)).length ≤ sizeLine := by rw [hlen]; exact Nat.le_trans hle (by decide)
    refine ⟨_, rfl, _, rfl, _, rfl, hz, _, _, rfl, rfl, S, _, rfl, hS, by omega, by rw [hlen]; omega, fun r H1 r0 r1 hS1 hB1 hF1 => ?_⟩
    rw [hlen] at r1
    obtain ⟨n, rfl⟩ : ∃ n : Nat, r = n := ⟨r.toNat, by omega⟩
    have hn : n ≤ (hexL ns).length := by omega
    refine ⟨_, rfl, S, 4, rfl, hS1, by decide, by decide, fun v H2 v0 v1 hS2 hB2 hF2 => ?_⟩
    have hB : But S H H2 := hB1.trans hB2
    refine ⟨_, rfl, rfl, _, rfl, ?_⟩
    refine ite2 (fun _ => ?_) (fun _ => ?_)
    · -- another sign
      refine ⟨_, rfl, by show 12 ≤ sizeLine; decide, fun L hL => ?_⟩
      have nLS : L ≠ S := fun e => by
        obtain ⟨x, y, z, q⟩ := hS2
        rw [e, q] at hL
        cases hL
      refine ⟨S, L, _, rfl, src_new hS2 hL, upd_same, nLS, by show 0 < 12; decide, by show 12 < 1000; decide, fun i x H3 hx hS3 hB3 hF3 => ?_⟩
      obtain ⟨c, hc, rfl⟩ : ∃ c, c ∈ oddS ∧ x = .str (sgn c) := by
        have e : ([.str "g", .str "A", .str "F", .str " ", .str "-", .str "x", .str ".", .str "/", .str ":", .str "~", .str "[", .str "z"] : List V) = oddS.map fun c => V.str (sgn c) := by decide +kernel
        have hx' : (oddS.map fun c => V.str (sgn c))[i]? = some x := e ▸ hx
        rw [List.getElem?_map] at hx'
        obtain ⟨c, hc, e2⟩ := Option.map_eq_some_iff.mp hx'
        exact ⟨c, List.mem_of_getElem? hc, e2.symm⟩
      have hB4 : But S H H3 := hB.trans ((Same.but (same_new (Same.refl H2) hL)).trans hB3)
      refine ⟨_, rfl, _, rfl, _, rfl, _, rfl, hz, _, rfl, _, _, rfl, rfl, ?_, _, rfl, _, rfl, _, rfl, S, 2, rfl, hS3, by decide, by decide, fun d H4 d0 d1 hS4 hB5 hF4 => ?_⟩
      · rw [cut_take, len_strOf, List.length_take]
        show min n _ + 1 ≤ sizeLine
        exact Nat.le_trans (by omega : _ ≤ 1000) (by decide)
      obtain ⟨m, rfl⟩ : ∃ m : Nat, d = m := ⟨d.toNat, by omega⟩
      refine ⟨_, _, rfl, rfl, _, rfl, _, rfl, hz, _, _, rfl, rfl, ?_, _, rfl, by show 2 ≤ sizeLine; decide, fun p hp => ?_⟩
      all_goals rw [show ((n : Int) + (m : Int)) = ((n + m : Nat) : Int) from by omega, cut_take, cut_drop, str_app]
      · rw [len_strOf, len_strOf, List.length_append, List.length_take, List.length_drop]
        show min n _ + 1 + _ ≤ sizeLine
        exact Nat.le_trans (by omega : _ ≤ 2000) (by decide)
      · rw [str_app]
        refine k p _ _ _ (src_new hS4 hp) ((hB4.trans hB5).same (same_new (Same.refl H4) hp)) upd_same ⟨?_, .inr ⟨n, rfl, bend0 hb hn (oddS_no c hc)⟩⟩
        rw [len_strOf, List.length_append, List.length_append, List.length_take, List.length_drop]
        show min n _ + 1 + _ ≤ 1000
        omega
    · refine ⟨_, rfl, rfl, _, rfl, ?_⟩
      refine ite2 (fun _ => ?_) (fun _ => ?_)
      · -- a digit more
        refine ⟨_, rfl, _, rfl, _, rfl, _, rfl, hz, _, _, rfl, rfl, ?_, _, rfl, _, rfl, _, rfl, _, rfl, hz, _, _, rfl, rfl, ?_, _, rfl, _, rfl, hz, _, _, rfl, rfl, by show 2 ≤ sizeLine; decide, fun p hp => ?_⟩
        · rw [cut_take, len_strOf, List.length_take]
          show min n _ + 1 ≤ sizeLine
          exact Nat.le_trans (by omega : _ ≤ 1000) (by decide)
        all_goals rw [cut_take, cut_drop, show ("7" : Str) = strOf [55] from by decide +kernel, str_app]
        · rw [len_strOf, len_strOf, List.length_append, List.length_take, List.length_drop]
          show min n _ + 1 + _ ≤ sizeLine
          exact Nat.le_trans (by omega : _ ≤ 2000) (by decide)
        · rw [str_app, hlen]
          refine k p _ _ _ (src_new hS2 hp) (hB.same (same_new (Same.refl H2) hp)) upd_same ⟨?_, .inr ⟨(hexL ns).length + 1, by rw [Int.natCast_add]; rfl, bend1 hb hn⟩⟩
          rw [len_strOf, List.length_append, List.length_append, List.length_take, List.length_drop]
          show min n _ + 1 + _ ≤ 1000
          omega
      · refine ⟨_, rfl, rfl, _, rfl, ?_⟩
        refine ite2 (fun _ => ?_) (fun _ => ?_)
        · refine ⟨_, rfl, rfl, _, rfl, ?_⟩
          by_cases he : ns = []
          · subst he
            refine iteNS rfl ?_
            refine ⟨_, rfl, by show 2 ≤ sizeLine; decide, fun p hp => ?_⟩
            exact k p _ _ _ (src_new hS2 hp) (hB.same (same_new (Same.refl H2) hp)) upd_same ⟨by decide, .inl ⟨rfl, rfl⟩⟩
          · have h0 : 0 < ns.length := List.length_pos_iff.mpr he
            refine ifNeT (fun q => ?_) ?_
            · have q2 : strOf (hexL ns) = Str.empty := V.str.inj q
              have q3 : (strOf (hexL ns)).length = 0 := by rw [q2]; rfl
              rw [hlen, hexL_len] at q3
              omega
            · refine ⟨_, rfl, 1, rfl, _, rfl, hz, _, rfl, _, rfl, hz, _, _, rfl, rfl, by show 2 ≤ sizeLine; decide, fun p hp => ?_⟩
              rw [show (1 : Int) = ((1 : Nat) : Int) from rfl, cut_drop, hlen]
              refine k p _ _ _ (src_new hS2 hp) (hB.same (same_new (Same.refl H2) hp)) upd_same ⟨?_, .inr ⟨(hexL ns).length - 1, ?_, bend2 hb he⟩⟩
              · rw [len_strOf, List.length_drop]
                omega
              · have : 1 ≤ (hexL ns).length := by rw [hexL_len]; omega
                rw [Int.natCast_sub this]
        · refine ⟨_, rfl, by show 2 ≤ sizeLine; decide, fun p hp => ?_⟩
          exact k p _ _ _ (src_new hS2 hp) (hB.same (same_new (Same.refl H2) hp)) upd_same ⟨by rw [hlen]; omega, .inl ⟨rfl, rfl⟩⟩
end
end G58

set_option Elab.async false
set_option linter.all false
set_option maxRecDepth 100000
set_option maxHeartbeats 4000000
/-! k74: small facts for the law's turns. -/
namespace G58
open PySem PySem.Spec PyProof.Rows L2 TL LamX
theorem Dp.mono {K : PySem.W.Frag} {H H' : Hp} {v : V} {d : PyData} (h : Dp K H v d) (s : Same H H') : Dp K H' v d := by
  have all : (∀ v d, Dp K H v d → Dp K H' v d) ∧ (∀ vs ds, DpAll K H vs ds → DpAll K H' vs ds) := by
    refine ⟨fun v d h => ?_, fun vs ds h => ?_⟩
    · induction h using Dp.rec (motive_2 := fun vs ds _ => DpAll K H' vs ds) with
      | non => exact .non
      | bl b => exact .bl b
      | int i => exact .int i
      | str x => exact .str x
      | lst q _ ih => exact .lst (s.seq q) ih
      | tup q _ ih => exact .tup (Same.tup s q) ih
      | nil => exact .nil
      | cons _ _ i1 i2 => exact .cons i1 i2
    · induction h using DpAll.rec (motive_1 := fun v d _ => Dp K H' v d) with
      | non => exact .non
      | bl b => exact .bl b
      | int i => exact .int i
      | str x => exact .str x
      | lst q _ ih => exact .lst (s.seq q) ih
      | tup q _ ih => exact .tup (Same.tup s q) ih
      | nil => exact .nil
      | cons _ _ i1 i2 => exact .cons i1 i2
  exact all.1 v d h
abbrev dInts (ns : List Nat) : PyData := .list (ns.map fun n => PyData.int (n : Nat))
theorem dp_ints {K : PySem.W.Frag} {H : Hp} {p : Addr} {ns : List Nat} (h : SqL K H p (vInts ns)) : Dp K H (.ref p) (dInts ns) := by
  refine .lst h ?_
  clear h
  induction ns with
  | nil => exact .nil
  | cons n r ih => exact .cons (.int _) ih
theorem lay_ints (ns : List Nat) : PyData.canLay0 (dInts ns) = true := by
  show PyData.canLayAll0 _ = true
  induction ns with
  | nil => rfl
  | cons n r ih =>
    show (PyData.canLay0 (.int _) && PyData.canLayAll0 _) = true
    rw [ih]
    rfl
theorem depth_ints (ns : List Nat) : PyData.depthAll (ns.map fun n => PyData.int (n : Nat)) = 0 := by
  induction ns with
  | nil => rfl
  | cons n r ih =>
    show max 0 _ = 0
    rw [ih]
    rfl
theorem shaped_of {x : Str} {d : PyData} (hx : PyData.canLay0 (.str x) = true) (hd : d.canLay0 = true) (h1 : d.depth ≤ 1) : SeqAt.shaped (.tuple [.str x, d]) = true := by
  unfold SeqAt.shaped
  have e : PyData.canLay0 (.tuple [.str x, d]) = true := by
    show (PyData.canLay0 (.str x) && (PyData.canLay0 d && true)) = true
    rw [hx, hd]
    rfl
  rw [e]
  have e2 : PyData.depth (.tuple [.str x, d]) = max 0 (max d.depth 0) + 1 := rfl
  rw [e2]
  simp
  omega
/-- two pairs of the same text and alike things are not unequal -/
theorem ne_pair {K : PySem.W.Frag} {H : Hp} {p q : Addr} {x : Str} {u v : V} {d : PyData} {Q : VK} (hp : H p = some (.tup [.str x, u])) (hq : H q = some (.tup [.str x, v])) (hu : Dp K H u d) (hv : Dp K H v d)
    (hx : PyData.canLay0 (.str x) = true) (hd : d.canLay0 = true) (h1 : d.depth ≤ 1) (k : Q (.bl false) H) : rNeD K (.ref p) (.ref q) H Q := by
  have hs := shaped_of (x := x) hx hd h1
  refine ⟨_, _, .tup (.inl (.inl hp)) (.cons (.str x) (.cons hu .nil)), .tup (.inl (.inl hq)) (.cons (.str x) (.cons hv .nil)), hs, hs, ?_⟩
  rw [SeqAt.eqv_refl _ (SeqAt.canLay_of_shaped hs)]
  exact k
theorem eq_pair {K : PySem.W.Frag} {H : Hp} {p q : Addr} {x : Str} {u v : V} {d : PyData} {Q : VK} (hp : H p = some (.tup [.str x, u])) (hq : H q = some (.tup [.str x, v])) (hu : Dp K H u d) (hv : Dp K H v d)
    (hx : PyData.canLay0 (.str x) = true) (hd : d.canLay0 = true) (h1 : d.depth ≤ 1) (k : Q (.bl true) H) : rEqD K (.ref p) (.ref q) H Q := by
  have hs := shaped_of (x := x) hx hd h1
  refine ⟨_, _, .tup (.inl (.inl hp)) (.cons (.str x) (.cons hu .nil)), .tup (.inl (.inl hq)) (.cons (.str x) (.cons hv .nil)), hs, hs, ?_⟩
  rw [SeqAt.eqv_refl _ (SeqAt.canLay_of_shaped hs)]
  exact k
theorem tabs_but {T : List (Addr × Str)} {S : Addr} {H H' : Hp} (t : Tabs T H) (hS : SrcAt H S) (b : But S H H') : Tabs T H' := by
  obtain ⟨x, y, z, hs⟩ := hS
  intro p hp
  obtain ⟨ps, h1, h2, h3⟩ := t p hp
  refine ⟨ps, b _ _ h1 (fun e => ?_), h2, fun pos cv hc => ?_⟩
  · rw [e, hs] at h1
    cases h1
  · obtain ⟨c, e1, e2⟩ := h3 pos cv hc
    refine ⟨c, e1, b _ _ e2 (fun e => ?_)⟩
    rw [e, hs] at e2
    have e3 := Option.some.inj e2
    unfold CodeO at e3
    cases e3
theorem tabs_same {T : List (Addr × Str)} {H H' : Hp} (t : Tabs T H) (s : Same H H') : Tabs T H' := t.ext s
theorem cutV_take (ns : List Nat) (n : Nat) : cutV (vInts ns) none (some (n : Int)) = vInts (ns.take n) := by
  unfold cutV
  rw [HT.sIx_none, HT.sIx_nat, List.drop_zero, Nat.sub_zero, Nat.min_comm, ← List.take_take, List.take_of_length_le (l := List.take n (vInts ns)) (by rw [List.length_take]; omega)]
  exact (List.map_take ..).symm
theorem cutV_drop (ns : List Nat) (n : Nat) : cutV (vInts ns) (some (n : Int)) none = vInts (ns.drop n) := by
  unfold cutV
  rw [HT.sIx_none, HT.sIx_nat, show vInts (ns.drop n) = (vInts ns).drop n from List.map_drop ..]
  by_cases h : n ≤ (vInts ns).length
  · rw [Nat.min_eq_left h, List.take_of_length_le (by rw [List.length_drop]; omega)]
  · rw [Nat.min_eq_right (by omega), List.drop_eq_nil_of_le (Nat.le_refl _), List.drop_eq_nil_of_le (by omega), List.take_nil]
theorem find_bad {ns : List Nat} (hb : Bytes ns) {n : Nat} (hn : n ≤ ns.length) {x : V} (hx : byteV x = false) : (vInts (ns.take n) ++ [x, .int 999] ++ vInts (ns.drop n)).findIdx? (fun x => !byteV x) = some n := by
  have hl : (vInts (ns.take n)).length = n := by
    rw [List.length_map, List.length_take, Nat.min_eq_left hn]
  refine find_first (x := x) ?_ (fun j y hj hy => ?_) (by rw [hx]; rfl)
  · rw [List.append_assoc, List.getElem?_append_right (by omega), hl, Nat.sub_self]
    rfl
  · rw [List.append_assoc, List.getElem?_append_left (by omega), List.getElem?_map] at hy
    obtain ⟨m, hm, rfl⟩ := Option.map_eq_some_iff.mp hy
    have q := hb m (List.mem_of_mem_take (List.mem_of_getElem? hm))
    show (!(decide ((0 : Int) ≤ (m : Int)) && decide ((m : Int) ≤ 255))) = false
    rw [decide_eq_true (by omega), decide_eq_true (by omega)]
    rfl
end G58

set_option Elab.async false
set_option linter.all false
set_option maxRecDepth 100000
set_option maxHeartbeats 4000000
namespace G58
open PySem PySem.Spec PyProof.Rows L2 TL LamX
/-- all that was tracked stays but what is at S, and tables -/
def ButT (S : Addr) (H H' : Hp) : Prop := ∀ b o, H b = some o → b ≠ S → (∀ ps, o ≠ .tbl ps) → H' b = some o
theorem ButT.refl (S : Addr) (H : Hp) : ButT S H H := fun _ _ h _ _ => h
theorem ButT.but {S : Addr} {H H1 H2 : Hp} (x : ButT S H H1) (y : But S H1 H2) : ButT S H H2 := fun b o h n t => y b o (x b o h n t) n
theorem ButT.ext {S : Addr} {H H1 H2 : Hp} (x : ButT S H H1) (y : ExtN H1 H2) : ButT S H H2 := fun b o h n t => y b o (x b o h n t) t
theorem ButT.trans {S : Addr} {H H1 H2 : Hp} (x : ButT S H H1) (y : ButT S H1 H2) : ButT S H H2 := fun b o h n t => y b o (x b o h n t) n t
/-- a new thing, perhaps written again -/
theorem ExtN.put {H H1 H2 : Hp} (x : ExtN H H1) (y : Same H1 H2) {p : Addr} {o : HO} (hp : H1 p = none) : ExtN H (upd H2 p o) := fun b u h t => by
  have q := x b u h t
  rw [upd_ne (ne_of_none q hp)]
  exact y b u q
theorem ExtN.same {H H1 H2 : Hp} (x : ExtN H H1) (y : Same H1 H2) : ExtN H H2 := x.trans (.of y)
theorem tabs_put {T : List (Addr × Str)} {H1 H2 : Hp} (t : Tabs T H1) (y : Same H1 H2) {p : Addr} {o : HO} (hp : H1 p = none) : Tabs T (upd H2 p o) := t.ext fun b u h => by
  rw [upd_ne (ne_of_none h hp)]
  exact y b u h
theorem src_ext {H H' : Hp} {S : Addr} (h : SrcAt H S) (x : ExtN H H') : SrcAt H' S := by
  obtain ⟨a, b, c, q⟩ := h
  exact ⟨a, b, c, x _ _ q fun ps z => by cases z⟩
theorem vInts_inj : ∀ {l r : List Nat}, vInts l = vInts r → l = r
  | [], [], _ => rfl
  | [], _ :: _, h => by cases h
  | _ :: _, [], h => by cases h
  | x :: l, y :: r, h => by
    have h' : V.int (x : Nat) :: vInts l = V.int (y : Nat) :: vInts r := h
    injection h' with h1 h2
    have h3 : (x : Int) = (y : Int) := V.int.inj h1
    rw [vInts_inj h2]
    congr 1
    omega
theorem pick5 {q : Int} (q0 : 0 ≤ q) (q1 : q < 256) : ∀ {m : Nat} {y : V}, ([.int 0, .int 255, .int 16, .int 15, .int q] : List V)[m]? = some y → ∃ v : Nat, y = .int (v : Nat) ∧ v < 256
  | 0, y, h => ⟨0, (Option.some.inj h).symm, by decide⟩
  | 1, y, h => ⟨255, (Option.some.inj h).symm, by decide⟩
  | 2, y, h => ⟨16, (Option.some.inj h).symm, by decide⟩
  | 3, y, h => ⟨15, (Option.some.inj h).symm, by decide⟩
  | 4, y, h => ⟨q.toNat, by rw [Int.toNat_of_nonneg q0]; exact (Option.some.inj h).symm, by omega⟩
  | m + 5, y, h => by cases h
theorem str_lay {ns : List Nat} (hb : Bytes ns) : PyData.canLay0 (.str (strOf (hexL ns))) = true := by
  show (strOf (hexL ns)).cps.all (· < 0x110000) = true
  rw [Array.all_eq_true_iff_forall_mem]
  intro c hc
  have hc' : c ∈ hexL ns := by simpa using hc
  have q := hexL_hex hb c hc'
  have m : c ∈ hexCs := by
    unfold isHex at q
    simpa using q
  have : ∀ d ∈ hexCs, d < 0x110000 := by decide
  simpa using this c m
theorem told_lay : PyData.canLay0 (.str ("told" : Str)) = true := by decide +kernel
theorem bytes_lay : PyData.canLay0 (.str ("bytes" : Str)) = true := by decide +kernel
theorem text_lay : PyData.canLay0 (.str ("text" : Str)) = true := by decide +kernel
theorem kd_ints {K : PySem.W.Frag} {H : Hp} {ns : List Nat} : ∀ x ∈ vInts ns, Kd K H x := fun x hx => by
  obtain ⟨n, _, rfl⟩ := List.mem_map.mp hx
  exact .int _
theorem ne_lists {K : PySem.W.Frag} {H : Hp} {p q : Addr} {ns : List Nat} {Q : VK} (hp : H p = some (.lst (vInts ns))) (hq : H q = some (.lst (vInts ns))) (k : Q (.bl false) H) : rNeD K (.ref p) (.ref q) H Q := by
  have hs : SeqAt.shaped (dInts ns) = true := by
    unfold SeqAt.shaped
    rw [lay_ints]
    have e : PyData.depth (dInts ns) = 0 + 1 := congrArg (· + 1) (depth_ints ns)
    rw [e]
    rfl
  refine ⟨_, _, dp_ints (.inl (.inl hp)), dp_ints (.inl (.inl hq)), hs, hs, ?_⟩
  rw [SeqAt.eqv_refl _ (SeqAt.canLay_of_shaped hs)]
  exact k
theorem depth_dInts (ns : List Nat) : PyData.depth (dInts ns) ≤ 1 := by
  have e : PyData.depth (dInts ns) = 0 + 1 := congrArg (· + 1) (depth_ints ns)
  rw [e]
  exact Nat.le_refl _
end G58

set_option Elab.async false
set_option linter.all false
set_option maxRecDepth 100000
set_option maxHeartbeats 4000000
/-! k74: the law's turns. -/
namespace G58
open PySem PySem.Spec PyProof.Rows L2 TL LamX
abbrev nRight : List Str := ["_law_source_here", "_law_k", "_law_some", "_law_kept", "_law_turn", "_law_found", "_law_at", "_law_odd", "_law_fault", "_law_bad", "_law_due", "_law_handed", "_law_word", "_law_j"]
theorem scRight : FnScope nRight ["_law_source_here"] (defScope sRight) := ⟨rfl, rfl, rfl, by decide +kernel, rfl, by decide +kernel, by decide +kernel⟩
/-- the name that a lambda of _law_right bears -/
abbrev lamQ : Str := (envOfC "_law_right" (defScope sRight) 0 0 .none).qual ++ "<lambda>"
theorem oneQ {pT P : Addr} {q : Str} : ∀ p ∈ [(pT, q)], p.1 = P → p.2 = q := fun p hp _ => by
  rw [List.mem_singleton.mp hp]
/-- what stands between the law's steps: the source, the table, two lists of the same bytes, all else -/
structure Gd (pT S D KL : Addr) (ns : List Nat) (H H1 : Hp) : Prop where
  src : SrcAt H1 S
  tab : Tabs [(pT, lamQ)] H1
  bt : ButT S H H1
  d : H1 D = some (.lst (vInts ns))
  k : H1 KL = some (.lst (vInts ns))
theorem Gd.ext {pT S D KL : Addr} {ns : List Nat} {H H1 H2 : Hp} (g : Gd pT S D KL ns H H1) (e : ExtN H1 H2) (t : Tabs [(pT, lamQ)] H2) : Gd pT S D KL ns H H2 :=
  ⟨src_ext g.src e, t, g.bt.ext e, e _ _ g.d fun ps z => (by cases z), e _ _ g.k fun ps z => (by cases z)⟩
theorem Gd.same {pT S D KL : Addr} {ns : List Nat} {H H1 H2 : Hp} (g : Gd pT S D KL ns H H1) (e : Same H1 H2) : Gd pT S D KL ns H H2 := g.ext (.of e) (tabs_same g.tab e)
theorem Gd.but {pT S D KL : Addr} {ns : List Nat} {H H1 H2 : Hp} (g : Gd pT S D KL ns H H1) (nD : D ≠ S) (nK : KL ≠ S) (s : SrcAt H2 S) (e : But S H1 H2) : Gd pT S D KL ns H H2 :=
  ⟨s, tabs_but g.tab g.src e, g.bt.but e, e _ _ g.d nD, e _ _ g.k nK⟩
def spRight (pT : Addr) : Sp := fun vs H Q _ => ∃ S : Addr, vs = [.ref S] ∧ SrcAt H S ∧ Tabs [(pT, lamQ)] H ∧ ∀ H', Tabs [(pT, lamQ)] H' → ButT S H H' → Q (.bl true) H'
section
variable {P : Program} {w : World} {K : PySem.W.Frag} {mg : Str → Option Value} {base : Heap} {a : Ad} {l : Ld}
theorem ok_right {f c pT : Addr} {oc kV doc pm ct : Value} {od an : Option Addr} {osl : Array (Option Value)}
    (lk : K.lookup f = some ⟨oc, od, .func (PySem.W.fnOf "_law_right" "_law_right" (defArgs sRight) (defBody sRight) (defScope sRight) .none kV doc pm an (.ref c) ct), osl⟩) (hcd : PySem.W.codeIn K (.ref c) "_law_right" = true)
    (T : Txt K mg a) (L : LTx mg l) (M : Exm K a) (TB : TabB base mg c pT)
    {fdD fdP fdL fdB fdH fdR fdS : FuncData} (FD : Fun K "_law_draw" "_law_draw" sDraw l.fDraw fdD) (bD : L2.Binds K fdD ["_law_source_here", "_law_many"] [])
    (FP : Fun K "_law_pick" "_law_pick" sPick l.fPick fdP) (bP : L2.Binds K fdP ["_law_source_here", "_law_items"] []) (FL : Fun K "_law_hex" "_law_hex" sLhex l.fLhex fdL) (bL : L2.Binds K fdL ["_law_some"] [])
    (FBn : Fun K "_law_bent" "_law_bent" sBent l.fBent fdB) (bBn : L2.Binds K fdB ["_law_source_here", "_law_word"] []) (FH : Fun K "hex_text" "hex_text" sHex a.fHex fdH) (bH : L2.Binds K fdH ["data"] []) (GH : FnOk P w K mg base (L2.CX P w) 4 a.fHex fdH ["data"] (spHex K a.cB))
    (FR : Fun K "read_hex" "read_hex" sRead a.fRead fdR) (bR : L2.Binds K fdR ["text"] []) (GR : FnOk P w K mg base (L2.CX P w) 3 a.fRead fdR ["text"] (spRead a.cT)) (FS : Fun K "_law_said" "_law_said" sSaid l.fSaid fdS) (bS : L2.Binds K fdS ["_law_ask"] []) :
    FnOk P w K mg base CX0 7 f (PySem.W.fnOf "_law_right" "_law_right" (defArgs sRight) (defBody sRight) (defScope sRight) .none kV doc pm an (.ref c) ct) ["_law_source_here"] (spRight pT) := by
  have GD : FnOk P w K mg base CX0 1 l.fDraw fdD ["_law_source_here", "_law_many"] spDraw := ok_draw FD L
  have GP : FnOk P w K mg base CX0 2 l.fPick fdP ["_law_source_here", "_law_items"] spPick := ok_pick FP L FD bD
  have GL : FnOk P w K mg base CX0 1 l.fLhex fdL ["_law_some"] (spLhex K) := ok_lhex FL L
  have GBn : FnOk P w K mg base CX0 3 l.fBent fdB ["_law_source_here", "_law_word"] spBent := ok_bent FBn L FD bD FP bP
  obtain ⟨ocS, odS, kVS, docS, pmS, anS, cdvS, ctS, oslS, rfl, lkS, cdS⟩ := FS.ex
  refine fn_of lk hcd scRight (fun vs H Q E h => ?_) fun A outer s H vs Q E hr h => ?_
  · obtain ⟨S, rfl, _⟩ := h
    rfl
  · obtain ⟨S, rfl, hS, hT, k⟩ := h
    have hr1 : Room 1 _ := hr.mono (by decide)
    have hr2 : Room 2 _ := hr.mono (by decide)
    have hr3 : Room 3 _ := hr.mono (by decide)
    have hr4 : Room 4 _ := hr.mono (by decide)
    suffices hh : ∃ t, PSs (cxOf CX0 P w K mg base nRight "_law_right" (defScope sRight) f (.ref c) A outer s H E).nox (defBody sRight) t ∧ t { nx := fun _ H' => Q .non H', rt := Q } (L2.start nRight [.ref S]) H by
      obtain ⟨t, ht, q⟩ := hh
      exact ⟨t, ht.nox, q⟩
    refine ⟨_, (pss_cons (ps_for PassesOwn.never rfl (pi_range1 (by rfl) L.bRange (pa_cons pe_int pa_nil)) (pg_name (i := 1) scRight.nd rfl (.inl rfl)) (pss_cons (ps_setLc (i := 2) (own := [("_law_j", 13)]) (g := (gName 13)) (tt := tYes) rfl scRight.nd rfl rfl (sw_true rfl rfl rfl (by decide +kernel)) (pi_range1 (by rfl) L.bRange (pa_cons (pe_call GD hr1 rfl L.gDraw FD.kp bD .nil pass0 (pa_cons (pv 0) (pa_cons pe_int pa_nil))) pa_nil)) (blkOk_by (N := ["_law_source_here", "_law_k", "_law_some", "_law_kept", "_law_turn", "_law_found", "_law_at", "_law_odd", "_law_fault", "_law_bad", "_law_due", "_law_handed", "_law_word", "_law_j"]) (sc := defScope sRight) (by decide +kernel)) (fun _ _ _ _ _ => (pg_name (i := 13) scRight.nd rfl (.inl rfl))) (fun _ _ _ _ _ => pts_nil) (fun _ _ _ _ _ => (pe_call GP hr2 rfl L.gPick FP.kp bP .nil pass0 (pa_cons (pv 0) (pa_cons (pe_lst (pa_cons pe_int (pa_cons pe_int (pa_cons pe_int (pa_cons pe_int (pa_cons (pe_call GD hr1 rfl L.gDraw FD.kp bD .nil pass0 (pa_cons (pv 0) (pa_cons pe_int pa_nil))) pa_nil)))))) pa_nil))))) (pss_cons (ps_asg (pe_tup (pa_cons (pe_call GL hr1 rfl L.gLhex FL.kp bL .nil pass0 (pa_cons (pv 2) pa_nil)) (pa_cons (pe_callTy call_list_of (by rfl) L.bList (by decide +kernel) (pa_cons (pv 2) pa_nil)) pa_nil))) (pg_tup rfl (pgs_cons (pg_name (i := 10) scRight.nd rfl (.inr rfl)) (pgs_cons (pg_name (i := 3) scRight.nd rfl (.inl rfl)) pgs_nil)))) (pss_cons (ps_for PassesOwn.never rfl (pi_tup (pe_tup (pa_cons (pv 2) (pa_cons (pe_callTy call_tuple_of (by rfl) L.bTuple (by decide +kernel) (pa_cons (pv 2) pa_nil)) pa_nil)))) (pg_name (i := 11) scRight.nd rfl (.inr rfl)) (pss_one (ps_if (pt_cmpR (op_neD hr.units) (pe_lamcall (k := 4) (T := [(pT, lamQ)]) (TT := TSaid a) rfl L.gSaid FS.kp lkS cdS bS scSaid rfl (.inl rfl) (said_gives T M) TB rfl (List.mem_singleton.mpr rfl) oneQ hr (lamS_by (sc := defScope sRight) (by decide +kernel)) rfl (fun _ _ _ _ _ => rfl) (fun A' outer' s' H' E' f' c' hq => (pe_call GH (hq.mono (by decide)) rfl T.gHex FH.kp bH .nil (passes_call (takes_of rfl rfl rfl rfl) (fun _ _ _ _ q => q)) (pa_cons (pv 11) pa_nil)))) (pe_tup (pa_cons pe_str (pa_cons (pv 10) pa_nil))) (nomark _)) (pss_one (ps_ret pe_bl)) pss_nil))) (pss_cons (ps_for PassesOwn.never rfl (pi_range1 (by rfl) L.bRange (pa_cons pe_int pa_nil)) (pg_name (i := 4) scRight.nd rfl (.inl rfl)) (pss_cons (ps_set (i := 5) scRight.nd rfl (.inl rfl) (pe_lamcall (k := 4) (T := [(pT, lamQ)]) (TT := TSaid a) rfl L.gSaid FS.kp lkS cdS bS scSaid rfl (.inl rfl) (said_gives T M) TB rfl (List.mem_singleton.mpr rfl) oneQ hr (lamS_by (sc := defScope sRight) (by decide +kernel)) rfl (fun _ _ _ _ _ => rfl) (fun A' outer' s' H' E' f' c' hq => (pe_call GR (hq.mono (by decide)) rfl T.gRead FR.kp bR .nil (passes_call (takes_of rfl rfl rfl rfl) (fun _ _ _ _ q => q)) (pa_cons (pv 10) pa_nil))))) (pss_cons (ps_if (PW.pt (pw_or (pt_cmpR (op_neD hr.units) (pv 5) (pe_tup (pa_cons pe_str (pa_cons (pv 3) pa_nil))) (nomark _)) (pw_or1 (pt_not (pt_val (pe_callB call_isi (by rfl) L.bIsi (by decide +kernel) (pa_cons (pe_ix ix_tup (pv 5) pe_int (fun _ _ => rfl)) (pa_cons (pe_bltn (v := .ty "list") rfl L.bList (by decide +kernel) rfl) pa_nil)))))))) (pss_one (ps_ret pe_bl)) pss_nil) (pss_one (ps_expr (pe_bm PySem.F.plainAttrs_list PySem.F.slot_list_append PySem.F.type_list_append mt_append (pe_ix ix_tup (pv 5) pe_int (fun _ _ => rfl)) (pa_cons pe_int pa_nil))))))) (pss_cons (ps_set (i := 6) scRight.nd rfl (.inl rfl) (pe_call GD hr1 rfl L.gDraw FD.kp bD .nil pass0 (pa_cons (pv 0) (pa_cons (pe_op op_add (pe_callB call_len_seq (by rfl) L.bLen PySem.boot_len (pa_cons (pv 2) pa_nil)) pe_int) pa_nil)))) (pss_cons (ps_set (i := 7) scRight.nd rfl (.inl rfl) (pe_call GP hr2 rfl L.gPick FP.kp bP .nil pass0 (pa_cons (pv 0) (pa_cons (pe_lst (pa_cons (pe_un un_neg pe_int) (pa_cons pe_int (pa_cons pe_non (pa_cons pe_bl (pa_cons pe_bl (pa_cons pe_str (pa_cons (pe_lst (pa_cons pe_int pa_nil)) (pa_cons (pe_tup pa_nil) (pa_cons pe_dnewK (pa_cons (pe_op op_pow pe_int pe_int) pa_nil))))))))))) pa_nil)))) (pss_cons (ps_set (i := 9) scRight.nd rfl (.inr rfl) (pe_op op_cat (pe_op op_cat (pe_slice sl_list (pv 2) po_none (po_some (pv 6))) (pe_lst (pa_cons (pv 7) (pa_cons pe_int pa_nil)))) (pe_slice sl_list (pv 2) (po_some (pv 6)) po_none))) (pss_cons (ps_if (PW.pt (pw_or (pt_cmpR (op_neD hr.units) (pe_lamcall (k := 4) (T := [(pT, lamQ)]) (TT := TSaid a) rfl L.gSaid FS.kp lkS cdS bS scSaid rfl (.inl rfl) (said_gives T M) TB rfl (List.mem_singleton.mpr rfl) oneQ hr (lamS_by (sc := defScope sRight) (by decide +kernel)) rfl (fun _ _ _ _ _ => rfl) (fun A' outer' s' H' E' f' c' hq => (pe_call GH (hq.mono (by decide)) rfl T.gHex FH.kp bH .nil (passes_call (takes_of rfl rfl rfl rfl) (fun _ _ _ _ q => q)) (pa_cons (pv 9) pa_nil)))) (pe_tup (pa_cons pe_str (pa_cons (pv 6) pa_nil))) (nomark _)) (pw_or1 (pt_cmpR (op_neD hr.units) (pv 2) (pv 3) (nomark _))))) (pss_one (ps_ret pe_bl)) pss_nil) (pss_cons (ps_asg (pe_call GBn hr3 rfl L.gBent FBn.kp bBn .nil pass0 (pa_cons (pv 0) (pa_cons (pv 10) pa_nil))) (pg_tup rfl (pgs_cons (pg_name (i := 12) scRight.nd rfl (.inr rfl)) (pgs_cons (pg_name (i := 8) scRight.nd rfl (.inl rfl)) pgs_nil)))) (pss_one (ps_if (pt_cmpR (op_neD hr.units) (pe_lamcall (k := 4) (T := [(pT, lamQ)]) (TT := TSaid a) rfl L.gSaid FS.kp lkS cdS bS scSaid rfl (.inl rfl) (said_gives T M) TB rfl (List.mem_singleton.mpr rfl) oneQ hr (lamS_by (sc := defScope sRight) (by decide +kernel)) rfl (fun _ _ _ _ _ => rfl) (fun A' outer' s' H' E' f' c' hq => (pe_call GR (hq.mono (by decide)) rfl T.gRead FR.kp bR .nil (passes_call (takes_of rfl rfl rfl rfl) (fun _ _ _ _ q => q)) (pa_cons (pv 12) pa_nil)))) (pe_ifExp (pt_cmpR op_isN (pv 8) pe_non (nomark _)) (pe_tup (pa_cons pe_str (pa_cons (pv 3) pa_nil))) (pe_tup (pa_cons pe_str (pa_cons (pv 8) pa_nil)))) (nomark _)) (pss_one (ps_ret pe_bl)) pss_nil)))))))))))) (pss_one (ps_ret (pe_and (pe_cmpR (op_eqD hr.units) (pe_lamcall (k := 4) (T := [(pT, lamQ)]) (TT := TSaid a) rfl L.gSaid FS.kp lkS cdS bS scSaid rfl (.inl rfl) (said_gives T M) TB rfl (List.mem_singleton.mpr rfl) oneQ hr (lamS_by (sc := defScope sRight) (by decide +kernel)) rfl (fun _ _ _ _ _ => rfl) (fun A' outer' s' H' E' f' c' hq => (pe_call GR (hq.mono (by decide)) rfl T.gRead FR.kp bR .nil (passes_call (takes_of rfl rfl rfl rfl) (fun _ _ _ _ q => q)) (pa_cons pe_str pa_nil)))) (pe_tup (pa_cons pe_str (pa_cons (pe_lst pa_nil) pa_nil))) (nomark _)) (pe_one (pe_cmpR op_eq (pe_call GH hr4 rfl T.gHex FH.kp bH .nil passL (pa_cons (pe_tup pa_nil) pa_nil)) pe_str (nomark _))))))), ?_⟩
    have z1 : (1 : Nat) ≤ sizeLine := by decide
    have z2 : (2 : Nat) ≤ sizeLine := by decide
    refine ⟨8, rfl, by decide, by decide, for_it walk_range (fun i st H1 => ∃ u1 u2 u3 u4 u5 u6 u7 u8 u9 u10 u11 u12, st = [some (.ref S), u1, u2, u3, u4, u5, u6, u7, u8, u9, u10, u11, u12, none] ∧ SrcAt H1 S ∧ Tabs [(pT, lamQ)] H1 ∧ ButT S H H1)
      ⟨_, _, _, _, _, _, _, _, _, _, _, _, rfl, hS, hT, ButT.refl S H⟩ (fun _ _ _ _ _ => True.intro) ?_ ?_⟩
    · rintro i x st H1 _ hi ⟨u1, u2, u3, u4, u5, u6, u7, u8, u9, u10, u11, u12, rfl, hS1, hT1, hB1⟩ ⟨rfl, rfl⟩
      -- _law_some
      refine ⟨_, rfl, S, 61, rfl, hS1, by decide, by decide, fun r H2 r0 r1 hS2 hB2 _ => ⟨r, rfl, by omega, by omega, fun D hD => ?_⟩⟩
      have nDS : D ≠ S := fun e => by
        obtain ⟨_, _, _, q⟩ := hS2
        rw [e, q] at hD
        cases hD
      refine lc_it walk_range (fun j H3 => ∃ ns : List Nat, ns.length = j ∧ Bytes ns ∧ H3 D = some (.lst (vInts ns)) ∧ SrcAt H3 S ∧ But S H2 H3)
        ⟨[], rfl, (fun n h => nomatch h), upd_same, src_new hS2 hD, Same.but (same_new (Same.refl H2) hD)⟩ (fun _ _ _ _ => True.intro) ?_ ?_
      · rintro j x H3 _ hj ⟨ns, hnl, hbn, hD3, hS3, hB3⟩ ⟨rfl, rfl⟩
        refine ⟨rfl, _, rfl, _, rfl, S, 256, rfl, hS3, by decide, by decide, fun q H4 q0 q1 hS4 hB4 _ => ⟨by show 5 ≤ sizeLine; decide, fun L0 hL0 => ?_⟩⟩
        have hD4 : H4 D = some (.lst (vInts ns)) := hB4 D _ hD3 nDS
        have nLS : L0 ≠ S := fun e => by
          obtain ⟨_, _, _, z⟩ := hS4
          rw [e, z] at hL0
          cases hL0
        refine ⟨S, L0, _, rfl, src_new hS4 hL0, upd_same, nLS, by show 0 < 5; decide, by show 5 < 1000; decide, fun m y H5 hy hS5 hB5 _ => ?_⟩
        obtain ⟨v, rfl, hv⟩ := pick5 q0 q1 hy
        refine ⟨vInts ns, hB5 D _ (by rw [upd_ne (ne_of_none hD4 hL0)]; exact hD4) nDS, ?_, ns ++ [v], ?_, ?_, ?_, ?_, ?_⟩
        · rw [List.length_map, hnl]
          exact Nat.lt_of_lt_of_le (by omega : j < 1000) (by decide)
        · rw [List.length_append, hnl]
          rfl
        · intro n hn
          rcases List.mem_append.mp hn with hn | hn
          · exact hbn n hn
          · rw [List.mem_singleton.mp hn]
            exact hv
        · rw [upd_same]
          simp
        · obtain ⟨a1, a2, a3, z⟩ := hS5
          exact ⟨a1, a2, a3, by rw [upd_ne nDS.symm]; exact z⟩
        · intro b o e n
          rw [upd_ne (ne_of_none e hD)]
          refine hB5 b o ?_ n
          have e4 := hB4 b o (hB3 b o e n) n
          rw [upd_ne (ne_of_none e4 hL0)]
          exact e4
      rintro H3 ⟨ns, hnl, hbn, hD3, hS3, hB3⟩
      have hnl2 : ns.length ≤ 60 := by
        have : ns.length = r.toNat := hnl
        omega
      have hT3 : Tabs [(pT, lamQ)] H3 := tabs_but (tabs_but hT1 hS1 hB2) hS2 hB3
      have hBT3 : ButT S H H3 := (hB1.but hB2).but hB3
      clear hB3 hS2 hB2 hT1 hB1 hS1 hD
      -- _law_due, _law_kept
      refine ⟨_, rfl, D, ns, rfl, .inl (.inl hD3), hbn, by omega, fun H4 s4 => ⟨_, rfl, D, _, rfl, .inl (.inl (.inl (s4 _ _ hD3))), fun KL hKL => ⟨z2, fun t ht => ⟨t, _, rfl, .inl (.inl upd_same), rfl, _, _, rfl, _, _, rfl, rfl, ?_⟩⟩⟩⟩
      have s5 : Same H3 (upd (upd H4 KL (.lst (vInts ns))) t (.tup [.str (strOf (hexL ns)), .ref KL])) := same_new (same_new s4 hKL) ht
      have hK5 : (upd (upd H4 KL (.lst (vInts ns))) t (.tup [.str (strOf (hexL ns)), .ref KL])) KL = some (.lst (vInts ns)) := by
        rw [upd_ne (ne_of_none upd_same ht)]
        exact upd_same
      have nKS : KL ≠ S := fun e => by
        obtain ⟨_, _, _, q⟩ := hS3
        have q4 := s4 _ _ q
        rw [← e, hKL] at q4
        cases q4
      have g5 : Gd pT S D KL ns H (upd (upd H4 KL (.lst (vInts ns))) t (.tup [.str (strOf (hexL ns)), .ref KL])) :=
        ⟨src_ext hS3 (.of s5), tabs_same hT3 s5, hBT3.ext (.of s5), s5 _ _ hD3, hK5⟩
      -- for _law_handed in (_law_some, tuple(_law_some))
      refine ⟨_, rfl, _, rfl, D, _, rfl, .inl ⟨.inl (.inl g5.d), fun tp htp => ⟨z2, fun tt htt => ⟨tt, rfl, ⟨_, .inl (.inl upd_same)⟩, for_it (walk_tup (K := K) (a := tt) (xs := [.ref D, .ref tp]))
        (fun j st H6 => ∃ v11, st = [some (.ref S), some (.int (0 + (i : Nat))), some (.ref D), some (.ref KL), u4, u5, u6, u7, u8, u9, some (.str (strOf (hexL ns))), v11, u12, none] ∧ Gd pT S D KL ns H H6 ∧ H6 tp = some (.tup (vInts ns)) ∧ H6 tt = some (.tup [.ref D, .ref tp]))
        ⟨u11, rfl, g5.same (same_new (same_new (Same.refl _) htp) htt), by rw [upd_ne (ne_of_none upd_same htt)]; exact upd_same, upd_same⟩ (fun j st H6 _ ⟨_, _, _, _, q⟩ => .inl (.inl q)) ?_ ?_⟩⟩⟩⟩
      · rintro j x st H6 _ hj ⟨v11, rfl, g6, hp6, ht6⟩ ⟨rfl, hx⟩
        refine ⟨g6.tab, fun H7 eN T7 => ?_⟩
        have g7 := g6.ext eN T7
        have hp7 : H7 tp = some (.tup (vInts ns)) := eN _ _ hp6 fun ps z => (by cases z)
        have ht7 : H7 tt = some (.tup [.ref D, .ref tp]) := eN _ _ ht6 fun ps z => (by cases z)
        obtain ⟨p, rfl, hq⟩ : ∃ p, x = .ref p ∧ (SqL K H7 p (vInts ns) ∨ SqT K H7 p (vInts ns)) := by
          match j, hx with
          | 0, hx => exact ⟨D, (Option.some.inj hx).symm, .inl (.inl (.inl g7.d))⟩
          | 1, hx => exact ⟨tp, (Option.some.inj hx).symm, .inr (.inl (.inl hp7))⟩
          | j + 2, hx => cases hx
        refine ⟨_, rfl, p, vInts ns, rfl, hq, kd_ints, by rw [List.length_map]; omega, fun i' hi' => ?_, fun ns' e hb' H8 s8 => ⟨z2, fun q hq1 => ⟨_, rfl, z2, fun q2 hq2 => ?_⟩⟩⟩
        · rw [vInts_good hbn] at hi'
          cases hi'
        · have e' := vInts_inj e
          subst e'
          have s9 := same_new (o := .tup [.str ("told" : Str), .str (strOf (hexL ns))]) (same_new (o := tup2 "told" (.str (strOf (hexL ns)))) s8 hq1) hq2
          refine ne_pair (x := "told") (d := .str (strOf (hexL ns))) (by rw [upd_ne (ne_of_none upd_same hq2)]; exact upd_same) upd_same (.str _) (.str _) told_lay (str_lay hbn) (Nat.zero_le _) ⟨false, rfl, iteF ?_⟩
          exact ⟨_, rfl, g7.same s9, s9 _ _ hp7, s9 _ _ ht7⟩
      rintro st H6 ⟨v11, rfl, g6, _, _⟩
      -- for _law_turn in range(2)
      have hlen : (strOf (hexL ns)).length ≤ 1000 := by
        rw [len_strOf, hexL_len]
        omega
      refine ⟨2, rfl, by decide, by decide, for_it walk_range (fun j st H7 => ∃ v4 v5, st = [some (.ref S), some (.int (0 + (i : Nat))), some (.ref D), some (.ref KL), v4, v5, u6, u7, u8, u9, some (.str (strOf (hexL ns))), v11, u12, none] ∧ Gd pT S D KL ns H H7)
        ⟨u4, u5, rfl, g6⟩ (fun _ _ _ _ _ => True.intro) ?_ ?_⟩
      · rintro j x st H7 _ hj ⟨v4, v5, rfl, g7⟩ ⟨rfl, rfl⟩
        refine ⟨g7.tab, fun H8 eN T8 => ?_⟩
        have g8 := g7.ext eN T8
        refine ⟨_, rfl, _, rfl, hlen, fun i' hi' => ?_, fun ns' e p H9 hp9 s9 h9 => ⟨z2, fun q hq => ?_⟩⟩
        · have z : rdOut (hexL ns) = .inl i' := hi'
          rw [rdOut_hexL hbn] at z
          cases z
        have e' : ns = ns' := by
          have z : rdOut (hexL ns) = .inr ns' := e
          rw [rdOut_hexL hbn] at z
          exact Sum.inr.inj z
        subst e'
        refine ⟨_, rfl, _, rfl, z2, fun q2 hq2 => ?_⟩
        have s10 : Same H9 (upd (upd H9 q (tup2 "told" (.ref p))) q2 (.tup [.str ("told" : Str), .ref KL])) := same_new (same_new (Same.refl H9) hq) hq2
        have hq10 : (upd (upd H9 q (tup2 "told" (.ref p))) q2 (.tup [.str ("told" : Str), .ref KL])) q = some (.tup [.str ("told" : Str), .ref p]) := by
          rw [upd_ne (ne_of_none upd_same hq2)]
          exact upd_same
        have hp10 := s10 _ _ h9
        refine ne_pair (x := "told") (d := dInts ns) hq10 upd_same (dp_ints (.inl (.inl hp10))) (dp_ints (.inl (.inl (s10 _ _ (s9 _ _ g8.k))))) told_lay (lay_ints ns) (depth_dInts ns) ⟨false, rfl, iteF ?_⟩
        refine ⟨_, rfl, q, _, 1, .ref p, rfl, rfl, .inl (.inl hq10), rfl, .ref p, .ty "list", _, _, true, rfl, .ty _, .base (.lst hp10), kit_ty (by decide +kernel), true, rfl, iteF ?_⟩
        refine ⟨_, rfl, q, _, 1, .ref p, rfl, rfl, .inl (.inl hq10), rfl, .inl ⟨rfl, _, .inl (.inl hp10)⟩, p, _, _, rfl, rfl, hp10, ?_, ?_⟩
        · rw [List.length_map]
          exact Nat.lt_of_le_of_lt hnl2 (by decide)
        · exact ⟨_, _, rfl, g8.ext (ExtN.put (ExtN.refl H8) (s9.trans s10) hp9) (tabs_put T8 (s9.trans s10) hp9)⟩
      rintro st H7 ⟨v4, v5, rfl, g7⟩
      -- _law_at
      have hvl : (vInts ns).length = ns.length := List.length_map ..
      refine ⟨_, rfl, _, rfl, D, _, rfl, .inl (.inl (.inl g7.d)), _, _, rfl, rfl, S, _, rfl, g7.src, by omega, by omega, fun r2 H8 p0 p1 hS8 hB8 _ => ?_⟩
      obtain ⟨n, rfl⟩ : ∃ n : Nat, r2 = n := ⟨r2.toNat, by omega⟩
      have hn : n ≤ ns.length := by omega
      have g8 := g7.but nDS nKS hS8 hB8
      -- _law_odd
      refine ⟨_, rfl, 1, rfl, z1, fun q1 h1 => ⟨Nat.zero_le _, fun q2 h2 q3 h3 => ⟨_, _, rfl, rfl, ⟨by decide, by decide, by decide⟩, by show 10 ≤ sizeLine; decide, fun L0 hL0 => ?_⟩⟩⟩
      have n8 : ∀ b, H8 b = none → b ≠ S := fun b hb e => by
        obtain ⟨_, _, _, q⟩ := hS8
        rw [e, q] at hb
        cases hb
      have sa : Same H8 (upd H8 q1 (.lst [.int 1])) := same_new (Same.refl H8) h1
      have sb := same_new (o := .tup []) sa h2
      have sc := same_new (o := .dK []) sb h3
      have sd := same_new (o := .lst [.int (-1), .int 256, .non, .bl true, .bl false, .str ("0" : Str), .ref q1, .ref q2, .ref q3, .int (10 ^ (20 : Int).toNat)]) sc hL0
      have e1 : (upd (upd (upd (upd H8 q1 (.lst [.int 1])) q2 (.tup [])) q3 (.dK [])) L0 (.lst [.int (-1), .int 256, .non, .bl true, .bl false, .str ("0" : Str), .ref q1, .ref q2, .ref q3, .int (10 ^ (20 : Int).toNat)])) q1 = some (.lst [.int 1]) :=
        same_new (same_new (same_new (Same.refl _) h2) h3) hL0 _ _ upd_same
      have e2 : (upd (upd (upd (upd H8 q1 (.lst [.int 1])) q2 (.tup [])) q3 (.dK [])) L0 (.lst [.int (-1), .int 256, .non, .bl true, .bl false, .str ("0" : Str), .ref q1, .ref q2, .ref q3, .int (10 ^ (20 : Int).toNat)])) q2 = some (.tup []) :=
        same_new (same_new (Same.refl _) h3) hL0 _ _ upd_same
      have e3 : (upd (upd (upd (upd H8 q1 (.lst [.int 1])) q2 (.tup [])) q3 (.dK [])) L0 (.lst [.int (-1), .int 256, .non, .bl true, .bl false, .str ("0" : Str), .ref q1, .ref q2, .ref q3, .int (10 ^ (20 : Int).toNat)])) q3 = some (.dK []) :=
        same_new (Same.refl _) hL0 _ _ upd_same
      have m1 : q1 ≠ S := n8 q1 h1
      have m2 : q2 ≠ S := n8 q2 (sa.free h2)
      have m3 : q3 ≠ S := n8 q3 (sb.free h3)
      have m4 : L0 ≠ S := n8 L0 (sc.free hL0)
      refine ⟨S, L0, _, rfl, src_ext hS8 (.of sd), upd_same, m4, by show 0 < 10; decide, by show 10 < 1000; decide, fun m y H9 hy hS9 hB9 _ => ?_⟩
      have hy2 : Kd K H9 y ∧ byteV y = false := by
        match m, hy with
        | 0, hy => cases Option.some.inj hy; exact ⟨.int _, rfl⟩
        | 1, hy => cases Option.some.inj hy; exact ⟨.int _, rfl⟩
        | 2, hy => cases Option.some.inj hy; exact ⟨.non, rfl⟩
        | 3, hy => cases Option.some.inj hy; exact ⟨.bl _, rfl⟩
        | 4, hy => cases Option.some.inj hy; exact ⟨.bl _, rfl⟩
        | 5, hy => cases Option.some.inj hy; exact ⟨.str _, rfl⟩
        | 6, hy => cases Option.some.inj hy; exact ⟨.lst (hB9 _ _ e1 m1), rfl⟩
        | 7, hy => cases Option.some.inj hy; exact ⟨.tup (hB9 _ _ e2 m2), rfl⟩
        | 8, hy => cases Option.some.inj hy; exact ⟨.dct (hB9 _ _ e3 m3), rfl⟩
        | 9, hy => cases Option.some.inj hy; exact ⟨.int _, by decide +kernel⟩
        | m + 10, hy => cases hy
      have g9 := (g8.same sd).but nDS nKS hS9 hB9
      obtain ⟨hyK, hyB⟩ := hy2
      clear hy hB9 e1 e2 e3 sd sc sb sa h1 h2 h3 hL0 g8 g7 g6 g5
      -- _law_bad
      refine ⟨_, rfl, _, rfl, _, rfl, D, _, rfl, .inl (.inl g9.d), fun sa ha => ⟨_, rfl, z2, fun la hla => ?_⟩⟩
      have w1 : Same H9 (upd (upd H9 sa (.lst (cutV (vInts ns) none (some (n : Int))))) la (.lst [y, .int 999])) := same_new (same_new (Same.refl H9) ha) hla
      refine ⟨sa, la, _, _, rfl, rfl, by rw [upd_ne (ne_of_none upd_same hla)]; exact upd_same, upd_same, ?_, fun ca hca => ⟨_, rfl, _, rfl, _, rfl, D, _, rfl, .inl (.inl (same_new w1 hca _ _ g9.d)), fun sb hsb => ⟨ca, sb, _, _, rfl, rfl, by rw [upd_ne (ne_of_none upd_same hsb)]; exact upd_same, upd_same, ?_, fun Bd hBd => ?_⟩⟩⟩
      · rw [cutV_take, List.length_map, List.length_take]
        show _ + 2 ≤ sizeLine
        exact Nat.le_trans (by omega : _ ≤ 1000) (by decide)
      · rw [cutV_take, cutV_drop, List.length_append, List.length_map, List.length_map, List.length_take, List.length_drop]
        show _ + 2 + _ ≤ sizeLine
        exact Nat.le_trans (by omega : _ ≤ 1000) (by decide)
      have w2 := same_new (o := .lst (cutV (vInts ns) none (some (n : Int)) ++ [y, .int 999] ++ cutV (vInts ns) (some (n : Int)) none)) (same_new (o := .lst (cutV (vInts ns) (some (n : Int)) none)) (same_new (o := .lst (cutV (vInts ns) none (some (n : Int)) ++ [y, .int 999])) w1 hca) hsb) hBd
      have g10 := g9.same w2
      -- hex_text(_law_bad)
      refine ⟨g10.tab, fun H11 eN T11 => ?_⟩
      have g11 := g10.ext eN T11
      have hb11 : H11 Bd = some (.lst (vInts (ns.take n) ++ [y, .int 999] ++ vInts (ns.drop n))) := by
        rw [← cutV_take, ← cutV_drop]
        exact eN _ _ upd_same fun ps z => (by cases z)
      have hyK2 : Kd K H11 y := by
        cases hyK.mono w2 with
        | int i => exact .int i
        | non => exact .non
        | bl b => exact .bl b
        | str z => exact .str z
        | lst h => exact .lst (eN _ _ h fun ps z => (by cases z))
        | tup h => exact .tup (eN _ _ h fun ps z => (by cases z))
        | dct h => exact .dct (eN _ _ h fun ps z => (by cases z))
        | ktup e c => exact .ktup e c
      have fb := find_bad hbn hn hyB
      refine ⟨_, rfl, Bd, _, rfl, .inl (.inl (.inl hb11)), fun x hx => ?_, ?_, fun i' hi' d H12 s12 h12 => ⟨d, _, rfl, h12, .inl ⟨rfl, fun q hq => ⟨_, rfl, z2, fun q2 hq2 => ?_⟩⟩⟩, fun ns' e hb' => ?_⟩
      · rcases List.mem_append.mp hx with hx | hx
        · rcases List.mem_append.mp hx with hx | hx
          · exact kd_ints x hx
          · rcases List.mem_cons.mp hx with rfl | hx
            · exact hyK2
            · rw [List.mem_singleton.mp hx]
              exact .int _
        · exact kd_ints x hx
      · rw [List.length_append, List.length_append, List.length_map, List.length_map, List.length_take, List.length_drop]
        show _ + 2 + _ ≤ 1000
        omega
      · rw [fb] at hi'
        cases Option.some.inj hi'
        have s13 := same_new (o := .tup [.str ("bytes" : Str), .int (n : Nat)]) (same_new (o := tup2 "bytes" (.int (n : Nat))) s12 hq) hq2
        have g13 := g11.same s13
        refine ne_pair (x := "bytes") (d := .int (n : Nat)) (by rw [upd_ne (ne_of_none upd_same hq2)]; exact upd_same) upd_same (.int _) (.int _) bytes_lay rfl (Nat.zero_le _) ⟨false, rfl, iteF ?_⟩
        refine ⟨_, rfl, _, rfl, ne_lists g13.d g13.k ⟨false, rfl, iteF ?_⟩⟩
        clear g9 g10 g11 s12 h12 hq hq2 s13 hb11 T11 eN hyK hyK2 w1 w2
        generalize upd (upd H12 q (tup2 "bytes" (.int (n : Nat)))) q2 (.tup [.str ("bytes" : Str), .int (n : Nat)]) = H14 at g13 ⊢
        -- _law_word, _law_fault
        refine ⟨_, rfl, _, rfl, S, ns, rfl, hbn, by omega, g13.src, fun p H15 wd fv hS15 hB15 hp15 hbent => ⟨p, _, rfl, .inl (.inl hp15), rfl, _, _, rfl, _, _, rfl, rfl, ?_⟩⟩
        have g15 := g13.but nDS nKS hS15 hB15
        refine ⟨g15.tab, fun H16 eN T16 => ?_⟩
        have g16 := g15.ext eN T16
        obtain ⟨hwl, ⟨rfl, rfl⟩ | ⟨k2, rfl, hk2⟩⟩ := hbent
        · refine ⟨_, rfl, _, rfl, hwl, fun i' hi' => ?_, fun ns' e p2 H17 hp2 s17 h17 => ⟨z2, fun q hq => ⟨_, rfl, rfl, _, rfl, ite2 (fun _ => ⟨_, rfl, z2, fun q2 hq2 => ?_⟩) (fun z => absurd (decide_eq_true rfl) z)⟩⟩⟩
          · have z : rdOut (hexL ns) = .inl i' := hi'
            rw [rdOut_hexL hbn] at z
            cases z
          have e' : ns = ns' := by
            have z : rdOut (hexL ns) = .inr ns' := e
            rw [rdOut_hexL hbn] at z
            exact Sum.inr.inj z
          subst e'
          have s18 : Same H17 (upd (upd H17 q (tup2 "told" (.ref p2))) q2 (.tup [.str ("told" : Str), .ref KL])) := same_new (same_new (Same.refl H17) hq) hq2
          have g18 := g16.same (s17.trans s18)
          refine ne_pair (x := "told") (d := dInts ns) (by rw [upd_ne (ne_of_none upd_same hq2)]; exact upd_same) upd_same (dp_ints (.inl (.inl (s18 _ _ h17)))) (dp_ints (.inl (.inl g18.k))) told_lay (lay_ints ns) (depth_dInts ns) ⟨false, rfl, iteF ?_⟩
          exact ⟨_, _, _, _, _, _, _, _, _, _, _, _, rfl, g18.src, g18.tab, g18.bt⟩
        · refine ⟨_, rfl, _, rfl, hwl, fun i' hi' d2 H17 s17 h17 => ⟨d2, _, rfl, h17, .inr ⟨rfl, fun q hq => ⟨_, rfl, rfl, _, rfl, ite2 (fun z => absurd (of_decide_eq_true z) (fun y => nomatch y)) (fun _ => ⟨_, rfl, z2, fun q2 hq2 => ?_⟩)⟩⟩⟩, fun ns' e => ?_⟩
          · rw [hk2] at hi'
            cases Sum.inl.inj hi'
            have g18 := g16.same (same_new (o := .tup [.str ("text" : Str), .int (k2 : Nat)]) (same_new (o := tup2 "text" (.int (k2 : Nat))) s17 hq) hq2)
            refine ne_pair (x := "text") (d := .int (k2 : Nat)) (by rw [upd_ne (ne_of_none upd_same hq2)]; exact upd_same) upd_same (.int _) (.int _) text_lay rfl (Nat.zero_le _) ⟨false, rfl, iteF ?_⟩
            exact ⟨_, _, _, _, _, _, _, _, _, _, _, _, rfl, g18.src, g18.tab, g18.bt⟩
          · rw [hk2] at e
            cases e
      · intro H12 _
        have z := vInts_good hb'
        rw [← e, fb] at z
        cases z
    · rintro st H1 ⟨u1, u2, u3, u4, u5, u6, u7, u8, u9, u10, u11, u12, rfl, hS1, hT1, hB1⟩
      refine ⟨hT1, fun H2 eN T2 => ?_⟩
      have r0 : rdOut (tl ("" : Str)) = .inr [] := by decide +kernel
      refine ⟨_, rfl, by decide +kernel, fun i' hi' => ?_, fun ns' e p H3 hp3 s3 h3 => ⟨z2, fun q hq => ⟨Nat.zero_le _, fun e1 he1 => ⟨z2, fun q2 hq2 => ?_⟩⟩⟩⟩
      · rw [r0] at hi'
        cases hi'
      rw [r0] at e
      cases Sum.inr.inj e
      have s4 : Same H3 (upd (upd (upd H3 q (tup2 "told" (.ref p))) e1 (.lst [])) q2 (.tup [.str ("told" : Str), .ref e1])) := same_new (same_new (same_new (Same.refl H3) hq) he1) hq2
      refine eq_pair (x := "told") (d := dInts []) (same_new (same_new (Same.refl _) he1) hq2 _ _ upd_same) upd_same (dp_ints (.inl (.inl (s4 _ _ h3)))) (dp_ints (.inl (.inl (by rw [upd_ne (ne_of_none upd_same hq2)]; exact upd_same)))) told_lay (lay_ints []) (depth_dInts []) ⟨true, rfl, iteT ?_⟩
      refine ⟨Nat.zero_le _, fun e2 he2 => ⟨e2, [], rfl, .inr (.inl (.inl upd_same)), (fun x hx => nomatch hx), Nat.zero_le _, fun i' hi' => (by cases hi'), fun ns' e hb' H5 s5 => ⟨rfl, ?_⟩⟩⟩
      have e' : [] = ns' := vInts_inj (l := []) e
      subst e'
      have ed : decide (V.str (strOf (hexL [])) = V.str ("" : Str)) = true := by decide +kernel
      rw [ed]
      have s6 := (s3.trans (same_new s4 he2)).trans s5
      exact k H5 (tabs_same T2 s6) ((hB1.ext eN).ext (.of s6))
end
end G58

set_option Elab.async false
set_option linter.all false
set_option maxRecDepth 100000
set_option maxHeartbeats 4000000
/-! k74: the law. -/
namespace G58
open PySem PySem.Spec PyProof.Rows L2 TL LamX
/-- xs + ys, each a list that is to be read -/
def rCatS (K : PySem.W.Frag) : R2 := fun x y H Q => ∃ l b xs zs, x = .ref l ∧ y = .ref b ∧ SqL K H l xs ∧ SqL K H b zs ∧ xs.length + zs.length ≤ sizeLine ∧ ∀ p, H p = none → Q (.ref p) (upd H p (.lst (xs ++ zs)))
theorem op_catS {X : Cx} : OpR X (binaryOp .Add) (rCatS X.K) := by
  intro pins s st H x y v u Q Iv rx ry h
  obtain ⟨l, b, xs, zs, rfl, rfl, hl, hb, hz, q⟩ := h
  cases rx
  cases ry
  obtain ⟨its, r, pl, _⟩ := Iv.list hl
  obtain ⟨its2, r2, pl2, _⟩ := Iv.list hb
  have e1 := r.length
  have e2 := r2.length
  obtain ⟨⟨cls, dd, data, sl⟩, ho, hc, n, hd⟩ := id pl.isList
  obtain ⟨⟨cls2, dd2, data2, sl2⟩, ho2, hc2, n2, hd2⟩ := id pl2.isList
  simp only at hc hd hc2 hd2
  subst hc hd hc2 hd2
  refine concat_meets ⟨_, ho, rfl⟩ ⟨_, ho2, rfl⟩ noFill_list_add seq_list_add PySem.F.slot_list_add PySem.F.entry_list_add (PySem.F.args_list_add_2 _ _)
    (list_addW l b its.toArray its2.toArray n n2 dd dd2 sl sl2 (by rw [List.size_toArray, List.size_toArray]; omega)) ⟨ho, ho2, ?_⟩
  rw [show its.toArray ++ its2.toArray = (its ++ its2).toArray from by simp]
  exact ⟨.ref _, _, Iv.lnew (t' := s.toks) (r.append r2) (by rw [List.length_append]; omega), rfl, q _ Iv.fresh⟩
theorem mem_cut {xs : List V} {lo hi : Option Int} {x : V} (h : x ∈ cutV xs lo hi) : x ∈ xs := by
  unfold cutV at h
  exact List.mem_of_mem_drop (List.mem_of_mem_take h)
def spLaw (K : PySem.W.Frag) (pT : Addr) : Sp := fun vs H Q _ => ∃ (p : Addr) (ns : List Int), vs = [.ref p] ∧ SqL K H p (ns.map V.int) ∧ ns.length ≤ 63 ∧ H pT = some (.tbl #[]) ∧ ∀ H', Q (.bl true) H'
theorem scLaw : FnScope ["_law_script", "_law_cell", "_law_source_here"] ["_law_script"] (defScope sLaw) := ⟨rfl, rfl, rfl, by decide +kernel, rfl, by decide +kernel, by decide +kernel⟩
section
variable {P : Program} {w : World} {K : PySem.W.Frag} {mg : Str → Option Value} {base : Heap} {a : Ad} {l : Ld}
theorem ok_law {f pT : Addr} {fd fdS fdR : FuncData} (F : Fun K "law" "law" sLaw f fd) (L : LTx mg l) (FS : Fun K "_law_source" "_law_source" sSrc l.fSrc fdS) (bS : L2.Binds K fdS ["_law_cell"] [])
    (kR : PySem.W.keepIn K (.ref l.fRight) = true) (bR : L2.Binds K fdR ["_law_source_here"] []) (GR : FnOk P w K mg base CX0 7 l.fRight fdR ["_law_source_here"] (spRight pT)) : FnOk P w K mg base CX0 8 f fd ["_law_script"] (spLaw K pT) := by
  have GS : FnOk P w K mg base CX0 1 l.fSrc fdS ["_law_cell"] spSrc := ok_src FS L
  refine F.ok scLaw (fun vs H Q E h => ?_) (fun cdv A outer s H vs Q E hr h => ?_)
  · obtain ⟨p, ns, rfl, _⟩ := h
    rfl
  · obtain ⟨p, ns, rfl, hp, hl, hT, k⟩ := h
    refine ⟨_, pss_cons (ps_for PassesOwn.never rfl (pi_list (pe_slice sl_list (pe_op op_catS (pv 0) (pe_lst (pa_cons pe_int pa_nil))) po_none (po_some pe_int))) (pg_name (i := 1) scLaw.nd rfl (.inl rfl))
        (pss_cons (ps_set (i := 2) scLaw.nd rfl (.inl rfl) (pe_call GS (hr.mono (by decide)) rfl L.gSrc FS.kp bS .nil pass0 (pa_cons (pv 1) pa_nil)))
        (pss_one (ps_if (pt_not (pt_val (pe_call GR hr rfl L.gRight kR bR .nil pass0 (pa_cons (pv 2) pa_nil)))) (pss_one (ps_ret pe_bl)) pss_nil))))
      (pss_one (ps_ret pe_bl)), ?_⟩
    refine ⟨_, rfl, by show 1 ≤ sizeLine; decide, fun l0 hl0 => ?_⟩
    have s0 : Same H (upd H l0 (.lst [.int 0])) := same_new (Same.refl H) hl0
    refine ⟨p, l0, _, _, rfl, rfl, s0.seq hp, .inl (.inl upd_same), ?_, fun c1 hc1 => ⟨4, rfl, c1, _, rfl, .inl (.inl upd_same), fun s1 hs1 => ⟨s1, rfl, ⟨_, .inl (.inl upd_same)⟩, for_it (walk_list (K := K) (a := s1) (xs := cutV (ns.map V.int ++ [.int 0]) none (some 4)))
      (fun i st H1 => ∃ u1 u2, st = [some (.ref p), u1, u2] ∧ Tabs [(pT, lamQ)] H1 ∧ H1 s1 = some (.lst (cutV (ns.map V.int ++ [.int 0]) none (some 4)))) ⟨_, _, rfl, ?_, upd_same⟩ (fun i st H1 _ ⟨_, _, _, _, q⟩ => .inl (.inl q)) ?_ ?_⟩⟩⟩
    · rw [List.length_map]
      show _ + 1 ≤ sizeLine
      exact Nat.le_trans (by omega : _ ≤ 100) (by decide)
    · have t0 : Tabs [(pT, lamQ)] H := fun q hq => by
        rw [List.mem_singleton.mp hq]
        exact TabS.nil hT
      exact tabs_same t0 (same_new (same_new s0 hc1) hs1)
    · rintro i x st H1 _ hi ⟨u1, u2, rfl, t1, h1⟩ ⟨rfl, hx⟩
      obtain ⟨z, rfl⟩ : ∃ z, x = .int z := by
        rcases List.mem_append.mp (mem_cut (List.mem_of_getElem? hx)) with m | m
        · obtain ⟨z, _, e⟩ := List.mem_map.mp m
          exact ⟨z, e.symm⟩
        · exact ⟨0, List.mem_singleton.mp m⟩
      refine ⟨_, rfl, z, rfl, fun S H2 hS0 s2 hS2 => ?_⟩
      refine ⟨_, rfl, S, rfl, hS2, tabs_same t1 s2, fun H3 t3 bt3 => ⟨true, rfl, iteF ⟨_, _, rfl, t3, bt3 _ _ (s2 _ _ h1) (ne_of_none h1 hS0) fun ps z => (by cases z)⟩⟩⟩
    · rintro st H1 ⟨u1, u2, rfl, t1, h1⟩
      exact k H1
end
end G58

set_option Elab.async false
set_option linter.all false
set_option maxRecDepth 100000
set_option maxHeartbeats 8000000
/-! k74: what the top has written, and the end. -/
namespace G58
open PySem PySem.Spec PyProof.Rows L2 TL LamX
theorem exm_sub {K : PySem.W.Frag} {E S : Addr} {b : Bool} (h1 : PySem.W.subIn K (.ref S) (.type "BaseException") = some true) (h2 : PySem.W.isClsIn K S = true) (h3 : PySem.W.typeIn K (.ref S) = some (.type "type")) (h4 : PySem.W.subIn K (.ref E) (.ref S) = some b) :
    PySem.W.exmOne K (.ref E) (.ref S) = some b := by
  have q2 : ((PySem.W.clsIn K S).isSome && PySem.W.typeIn K (.ref S) == some (.type "type")) = true := by
    have z : (PySem.W.clsIn K S).isSome = true := h2
    rw [z, h3]
    rfl
  have q1 : (PySem.W.subIn K (.ref S) (.type "BaseException") == some true) = true := by
    rw [h1]
    rfl
  show (if (PySem.W.subIn K (.ref S) (.type "BaseException") == some true) = true then (if ((PySem.W.clsIn K S).isSome && PySem.W.typeIn K (.ref S) == some (.type "type")) = true then PySem.W.subIn K (.ref E) (.ref S) else none) else none) = some b
  rw [if_pos q1, if_pos q2]
  exact h4
theorem all_mk {l : PySem.W.OpenLaw} {w : World} {K : PySem.W.Frag} {h : Heap} {mg : Str → Option Value} {fa cB cT cN cR pT : Addr} {tH : Tok} (X : K.In h) (G : h.Ns mainGlobals mg) (hfa : mg "law" = some (.ref fa))
    {f_ib : Addr} {od_ib an_ib : Option Addr} {sl_ib : Array (Option Value)} {oc_ib kV_ib dc_ib pm_ib ct_ib cd_ib : Value}
    {f_it : Addr} {od_it an_it : Option Addr} {sl_it : Array (Option Value)} {oc_it kV_it dc_it pm_it ct_it cd_it : Value}
    {f_in : Addr} {od_in an_in : Option Addr} {sl_in : Array (Option Value)} {oc_in kV_in dc_in pm_in ct_in cd_in : Value}
    {f_bt : Addr} {od_bt an_bt : Option Addr} {sl_bt : Array (Option Value)} {oc_bt kV_bt dc_bt pm_bt ct_bt cd_bt : Value}
    {f_ch : Addr} {od_ch an_ch : Option Addr} {sl_ch : Array (Option Value)} {oc_ch kV_ch dc_ch pm_ch ct_ch cd_ch : Value}
    {f_oc : Addr} {od_oc an_oc : Option Addr} {sl_oc : Array (Option Value)} {oc_oc kV_oc dc_oc pm_oc ct_oc cd_oc : Value}
    {f_os : Addr} {od_os an_os : Option Addr} {sl_os : Array (Option Value)} {oc_os kV_os dc_os pm_os ct_os cd_os : Value}
    {f_hx : Addr} {od_hx an_hx : Option Addr} {sl_hx : Array (Option Value)} {oc_hx kV_hx dc_hx pm_hx ct_hx cd_hx : Value}
    {f_rd : Addr} {od_rd an_rd : Option Addr} {sl_rd : Array (Option Value)} {oc_rd kV_rd dc_rd pm_rd ct_rd cd_rd : Value}
    {f_sr : Addr} {od_sr an_sr : Option Addr} {sl_sr : Array (Option Value)} {oc_sr kV_sr dc_sr pm_sr ct_sr cd_sr : Value}
    {f_dr : Addr} {od_dr an_dr : Option Addr} {sl_dr : Array (Option Value)} {oc_dr kV_dr dc_dr pm_dr ct_dr cd_dr : Value}
    {f_pk : Addr} {od_pk an_pk : Option Addr} {sl_pk : Array (Option Value)} {oc_pk kV_pk dc_pk pm_pk ct_pk cd_pk : Value}
    {f_lh : Addr} {od_lh an_lh : Option Addr} {sl_lh : Array (Option Value)} {oc_lh kV_lh dc_lh pm_lh ct_lh cd_lh : Value}
    {f_sd : Addr} {od_sd an_sd : Option Addr} {sl_sd : Array (Option Value)} {oc_sd kV_sd dc_sd pm_sd ct_sd cd_sd : Value}
    {f_bn : Addr} {od_bn an_bn : Option Addr} {sl_bn : Array (Option Value)} {oc_bn kV_bn dc_bn pm_bn ct_bn cd_bn : Value}
    {f_rt : Addr} {od_rt an_rt : Option Addr} {sl_rt : Array (Option Value)} {oc_rt kV_rt dc_rt pm_rt ct_rt : Value}
    {f_lw : Addr} {od_lw an_lw : Option Addr} {sl_lw : Array (Option Value)} {oc_lw kV_lw dc_lw pm_lw ct_lw cd_lw : Value}
    {nm_cB qn_cB : Str} {N_cB : Addr} {bs_cB : List Value} {sn_cB : List Str} {sub_cB : List Value} {ab_cB : Bool} {col_cB : Option Bool} {dd_cB : Option Addr} {m0_cB m1_cB m2_cB m3_cB m5_cB : Option Value} {bm_cB : List Value}
    {nm_cT qn_cT : Str} {N_cT : Addr} {bs_cT : List Value} {sn_cT : List Str} {sub_cT : List Value} {ab_cT : Bool} {col_cT : Option Bool} {dd_cT : Option Addr} {m0_cT m1_cT m2_cT m3_cT m5_cT : Option Value} {bm_cT : List Value}
    (aC_cB : PySem.W.nsIn K mainGlobals "NoBytes" = some (some (.ref cB)))
    (xL_cB : K.lookup cB = some (excClassObj nm_cB qn_cB cB N_cB bs_cB bm_cB true sn_cB sub_cB ab_cB col_cB dd_cB m0_cB m1_cB m2_cB m3_cB m5_cB "ValueError.__new__"))
    (xv_cB : PySem.HandSPX.refsVE bm_cB = true)
    (sa_cB : PySem.W.findIn K (.ref cB) "__setattr__" = some (some (.builtin "object.__setattr__")))
    (ga_cB : PySem.W.findIn K (.ref cB) "__getattribute__" = some (some (.builtin "BaseException.__getattribute__")))
    (gg_cB : PySem.W.findIn K (.ref cB) "__getattr__" = some none)
    (no_cB : PySem.W.findIn K (.ref cB) "place" = some none)
    (hd_cB : PySem.W.hasDictIn K cB = true)
    (kC_cB : PySem.W.keepIn K (.ref cB) = true)
    (eC_cB : PySem.W.subIn K (.ref cB) (.type "BaseException") = some true)
    (tC_cB : PySem.W.typeIn K (.ref cB) = some (.type "type"))
    (iC_cB : PySem.W.isClsIn K cB = true)
    (aC_cT : PySem.W.nsIn K mainGlobals "BadText" = some (some (.ref cT)))
    (xL_cT : K.lookup cT = some (excClassObj nm_cT qn_cT cT N_cT bs_cT bm_cT true sn_cT sub_cT ab_cT col_cT dd_cT m0_cT m1_cT m2_cT m3_cT m5_cT "ValueError.__new__"))
    (xv_cT : PySem.HandSPX.refsVE bm_cT = true)
    (sa_cT : PySem.W.findIn K (.ref cT) "__setattr__" = some (some (.builtin "object.__setattr__")))
    (ga_cT : PySem.W.findIn K (.ref cT) "__getattribute__" = some (some (.builtin "BaseException.__getattribute__")))
    (gg_cT : PySem.W.findIn K (.ref cT) "__getattr__" = some none)
    (no_cT : PySem.W.findIn K (.ref cT) "place" = some none)
    (hd_cT : PySem.W.hasDictIn K cT = true)
    (kC_cT : PySem.W.keepIn K (.ref cT) = true)
    (eC_cT : PySem.W.subIn K (.ref cT) (.type "BaseException") = some true)
    (tC_cT : PySem.W.typeIn K (.ref cT) = some (.type "type"))
    (iC_cT : PySem.W.isClsIn K cT = true)
    (aC_cN : PySem.W.nsIn K mainGlobals "NestError" = some (some (.ref cN)))
    (s_bb : PySem.W.subIn K (.ref cB) (.ref cB) = some true)
    (s_tb : PySem.W.subIn K (.ref cT) (.ref cB) = some false)
    (s_tt : PySem.W.subIn K (.ref cT) (.ref cT) = some true)
    (a_ib : PySem.W.findIn K (.ref cB) "__init__" = some (some (.ref f_ib)))
    (t_ib : PySem.W.typeIn K (.ref f_ib) = some (.type "function"))
    (l_ib : K.lookup f_ib = some ⟨oc_ib, od_ib, .func (PySem.W.fnOf "__init__" "NoBytes.__init__" (defArgs sInitB) (defBody sInitB) (defScope sInitB) .none kV_ib dc_ib pm_ib an_ib cd_ib ct_ib), sl_ib⟩)
    (c_ib : PySem.W.codeIn K cd_ib "NoBytes.__init__" = true)
    (k_ib : PySem.W.keepIn K (.ref f_ib) = true)
    (a_it : PySem.W.findIn K (.ref cT) "__init__" = some (some (.ref f_it)))
    (t_it : PySem.W.typeIn K (.ref f_it) = some (.type "function"))
    (l_it : K.lookup f_it = some ⟨oc_it, od_it, .func (PySem.W.fnOf "__init__" "BadText.__init__" (defArgs sInitT) (defBody sInitT) (defScope sInitT) .none kV_it dc_it pm_it an_it cd_it ct_it), sl_it⟩)
    (c_it : PySem.W.codeIn K cd_it "BadText.__init__" = true)
    (k_it : PySem.W.keepIn K (.ref f_it) = true)
    (a_in : PySem.W.nsIn K mainGlobals "is_integer" = some (some (.ref f_in)))
    (l_in : K.lookup f_in = some ⟨oc_in, od_in, .func (PySem.W.fnOf "is_integer" "is_integer" (defArgs sInt) (defBody sInt) (defScope sInt) .none kV_in dc_in pm_in an_in cd_in ct_in), sl_in⟩)
    (c_in : PySem.W.codeIn K cd_in "is_integer" = true)
    (k_in : PySem.W.keepIn K (.ref f_in) = true)
    (a_bt : PySem.W.nsIn K mainGlobals "is_between" = some (some (.ref f_bt)))
    (l_bt : K.lookup f_bt = some ⟨oc_bt, od_bt, .func (PySem.W.fnOf "is_between" "is_between" (defArgs sBtw) (defBody sBtw) (defScope sBtw) .none kV_bt dc_bt pm_bt an_bt cd_bt ct_bt), sl_bt⟩)
    (c_bt : PySem.W.codeIn K cd_bt "is_between" = true)
    (k_bt : PySem.W.keepIn K (.ref f_bt) = true)
    (a_ch : PySem.W.nsIn K mainGlobals "check_bytes" = some (some (.ref f_ch)))
    (l_ch : K.lookup f_ch = some ⟨oc_ch, od_ch, .func (PySem.W.fnOf "check_bytes" "check_bytes" (defArgs sChk) (defBody sChk) (defScope sChk) .none kV_ch dc_ch pm_ch an_ch cd_ch ct_ch), sl_ch⟩)
    (c_ch : PySem.W.codeIn K cd_ch "check_bytes" = true)
    (k_ch : PySem.W.keepIn K (.ref f_ch) = true)
    (a_oc : PySem.W.nsIn K mainGlobals "hex_octet" = some (some (.ref f_oc)))
    (l_oc : K.lookup f_oc = some ⟨oc_oc, od_oc, .func (PySem.W.fnOf "hex_octet" "hex_octet" (defArgs sOct) (defBody sOct) (defScope sOct) .none kV_oc dc_oc pm_oc an_oc cd_oc ct_oc), sl_oc⟩)
    (c_oc : PySem.W.codeIn K cd_oc "hex_octet" = true)
    (k_oc : PySem.W.keepIn K (.ref f_oc) = true)
    (a_os : PySem.W.nsIn K mainGlobals "hex_octets" = some (some (.ref f_os)))
    (l_os : K.lookup f_os = some ⟨oc_os, od_os, .func (PySem.W.fnOf "hex_octets" "hex_octets" (defArgs sOcts) (defBody sOcts) (defScope sOcts) .none kV_os dc_os pm_os an_os cd_os ct_os), sl_os⟩)
    (c_os : PySem.W.codeIn K cd_os "hex_octets" = true)
    (k_os : PySem.W.keepIn K (.ref f_os) = true)
    (a_hx : PySem.W.nsIn K mainGlobals "hex_text" = some (some (.ref f_hx)))
    (l_hx : K.lookup f_hx = some ⟨oc_hx, od_hx, .func (PySem.W.fnOf "hex_text" "hex_text" (defArgs sHex) (defBody sHex) (defScope sHex) .none kV_hx dc_hx pm_hx an_hx cd_hx ct_hx), sl_hx⟩)
    (c_hx : PySem.W.codeIn K cd_hx "hex_text" = true)
    (k_hx : PySem.W.keepIn K (.ref f_hx) = true)
    (a_rd : PySem.W.nsIn K mainGlobals "read_hex" = some (some (.ref f_rd)))
    (l_rd : K.lookup f_rd = some ⟨oc_rd, od_rd, .func (PySem.W.fnOf "read_hex" "read_hex" (defArgs sRead) (defBody sRead) (defScope sRead) .none kV_rd dc_rd pm_rd an_rd cd_rd ct_rd), sl_rd⟩)
    (c_rd : PySem.W.codeIn K cd_rd "read_hex" = true)
    (k_rd : PySem.W.keepIn K (.ref f_rd) = true)
    (a_sr : PySem.W.nsIn K mainGlobals "_law_source" = some (some (.ref f_sr)))
    (l_sr : K.lookup f_sr = some ⟨oc_sr, od_sr, .func (PySem.W.fnOf "_law_source" "_law_source" (defArgs sSrc) (defBody sSrc) (defScope sSrc) .none kV_sr dc_sr pm_sr an_sr cd_sr ct_sr), sl_sr⟩)
    (c_sr : PySem.W.codeIn K cd_sr "_law_source" = true)
    (k_sr : PySem.W.keepIn K (.ref f_sr) = true)
    (a_dr : PySem.W.nsIn K mainGlobals "_law_draw" = some (some (.ref f_dr)))
    (l_dr : K.lookup f_dr = some ⟨oc_dr, od_dr, .func (PySem.W.fnOf "_law_draw" "_law_draw" (defArgs sDraw) (defBody sDraw) (defScope sDraw) .none kV_dr dc_dr pm_dr an_dr cd_dr ct_dr), sl_dr⟩)
    (c_dr : PySem.W.codeIn K cd_dr "_law_draw" = true)
    (k_dr : PySem.W.keepIn K (.ref f_dr) = true)
    (a_pk : PySem.W.nsIn K mainGlobals "_law_pick" = some (some (.ref f_pk)))
    (l_pk : K.lookup f_pk = some ⟨oc_pk, od_pk, .func (PySem.W.fnOf "_law_pick" "_law_pick" (defArgs sPick) (defBody sPick) (defScope sPick) .none kV_pk dc_pk pm_pk an_pk cd_pk ct_pk), sl_pk⟩)
    (c_pk : PySem.W.codeIn K cd_pk "_law_pick" = true)
    (k_pk : PySem.W.keepIn K (.ref f_pk) = true)
    (a_lh : PySem.W.nsIn K mainGlobals "_law_hex" = some (some (.ref f_lh)))
    (l_lh : K.lookup f_lh = some ⟨oc_lh, od_lh, .func (PySem.W.fnOf "_law_hex" "_law_hex" (defArgs sLhex) (defBody sLhex) (defScope sLhex) .none kV_lh dc_lh pm_lh an_lh cd_lh ct_lh), sl_lh⟩)
    (c_lh : PySem.W.codeIn K cd_lh "_law_hex" = true)
    (k_lh : PySem.W.keepIn K (.ref f_lh) = true)
    (a_sd : PySem.W.nsIn K mainGlobals "_law_said" = some (some (.ref f_sd)))
    (l_sd : K.lookup f_sd = some ⟨oc_sd, od_sd, .func (PySem.W.fnOf "_law_said" "_law_said" (defArgs sSaid) (defBody sSaid) (defScope sSaid) .none kV_sd dc_sd pm_sd an_sd cd_sd ct_sd), sl_sd⟩)
    (c_sd : PySem.W.codeIn K cd_sd "_law_said" = true)
    (k_sd : PySem.W.keepIn K (.ref f_sd) = true)
    (a_bn : PySem.W.nsIn K mainGlobals "_law_bent" = some (some (.ref f_bn)))
    (l_bn : K.lookup f_bn = some ⟨oc_bn, od_bn, .func (PySem.W.fnOf "_law_bent" "_law_bent" (defArgs sBent) (defBody sBent) (defScope sBent) .none kV_bn dc_bn pm_bn an_bn cd_bn ct_bn), sl_bn⟩)
    (c_bn : PySem.W.codeIn K cd_bn "_law_bent" = true)
    (k_bn : PySem.W.keepIn K (.ref f_bn) = true)
    (a_rt : PySem.W.nsIn K mainGlobals "_law_right" = some (some (.ref f_rt)))
    (l_rt : K.lookup f_rt = some ⟨oc_rt, od_rt, .func (PySem.W.fnOf "_law_right" "_law_right" (defArgs sRight) (defBody sRight) (defScope sRight) .none kV_rt dc_rt pm_rt an_rt (.ref cR) ct_rt), sl_rt⟩)
    (c_rt : PySem.W.codeIn K (.ref cR) "_law_right" = true)
    (k_rt : PySem.W.keepIn K (.ref f_rt) = true)
    (a_lw : PySem.W.nsIn K mainGlobals "law" = some (some (.ref f_lw)))
    (l_lw : K.lookup f_lw = some ⟨oc_lw, od_lw, .func (PySem.W.fnOf "law" "law" (defArgs sLaw) (defBody sLaw) (defScope sLaw) .none kV_lw dc_lw pm_lw an_lw cd_lw ct_lw), sl_lw⟩)
    (c_lw : PySem.W.codeIn K cd_lw "law" = true)
    (k_lw : PySem.W.keepIn K (.ref f_lw) = true)
    (z_isinstance : PySem.W.nsIn K mainGlobals "isinstance" = some none)
    (z_int : PySem.W.nsIn K mainGlobals "int" = some none)
    (z_bool : PySem.W.nsIn K mainGlobals "bool" = some none)
    (z_enumerate : PySem.W.nsIn K mainGlobals "enumerate" = some none)
    (z_zip : PySem.W.nsIn K mainGlobals "zip" = some none)
    (z_len : PySem.W.nsIn K mainGlobals "len" = some none)
    (z_abs : PySem.W.nsIn K mainGlobals "abs" = some none)
    (z_range : PySem.W.nsIn K mainGlobals "range" = some none)
    (z_list : PySem.W.nsIn K mainGlobals "list" = some none)
    (z_tuple : PySem.W.nsIn K mainGlobals "tuple" = some none)
    (hx : PySem.W.nsIn K mainGlobals "HEX" = some (some (.str "0123456789abcdef" tH)))
    (tabP : h.get? pT = some (PySem.W.tabObj #[]))
    (noP : K.lookup pT = none)
    (hdP : PySem.W.codeHdIn K cR pT = true) :
    LawAtS l w K CX0 8 63 "_law_script" mg fa h := by
  have e := hfa.symm.trans (PySem.W.mg_of X G a_lw)
  cases e
  have F_ib := fun_mk (st := sInitB) l_ib c_ib k_ib
  have b_ib := F_ib.binds (ps := ["self", "place"]) fun _ _ _ _ _ _ us hl => match us, hl with | [_, _], _ => rfl
  have F_it := fun_mk (st := sInitT) l_it c_it k_it
  have b_it := F_it.binds (ps := ["self", "place"]) fun _ _ _ _ _ _ us hl => match us, hl with | [_, _], _ => rfl
  have F_in := fun_mk (st := sInt) l_in c_in k_in
  have b_in := F_in.binds (ps := ["thing"]) fun _ _ _ _ _ _ us hl => match us, hl with | [_], _ => rfl
  have F_bt := fun_mk (st := sBtw) l_bt c_bt k_bt
  have b_bt := F_bt.binds (ps := ["thing", "least", "most"]) fun _ _ _ _ _ _ us hl => match us, hl with | [_, _, _], _ => rfl
  have F_ch := fun_mk (st := sChk) l_ch c_ch k_ch
  have b_ch := F_ch.binds (ps := ["data"]) fun _ _ _ _ _ _ us hl => match us, hl with | [_], _ => rfl
  have F_oc := fun_mk (st := sOct) l_oc c_oc k_oc
  have b_oc := F_oc.binds (ps := ["octet"]) fun _ _ _ _ _ _ us hl => match us, hl with | [_], _ => rfl
  have F_os := fun_mk (st := sOcts) l_os c_os k_os
  have b_os := F_os.binds (ps := ["octets"]) fun _ _ _ _ _ _ us hl => match us, hl with | [_], _ => rfl
  have F_hx := fun_mk (st := sHex) l_hx c_hx k_hx
  have b_hx := F_hx.binds (ps := ["data"]) fun _ _ _ _ _ _ us hl => match us, hl with | [_], _ => rfl
  have F_rd := fun_mk (st := sRead) l_rd c_rd k_rd
  have b_rd := F_rd.binds (ps := ["text"]) fun _ _ _ _ _ _ us hl => match us, hl with | [_], _ => rfl
  have F_sr := fun_mk (st := sSrc) l_sr c_sr k_sr
  have b_sr := F_sr.binds (ps := ["_law_cell"]) fun _ _ _ _ _ _ us hl => match us, hl with | [_], _ => rfl
  have F_dr := fun_mk (st := sDraw) l_dr c_dr k_dr
  have b_dr := F_dr.binds (ps := ["_law_source_here", "_law_many"]) fun _ _ _ _ _ _ us hl => match us, hl with | [_, _], _ => rfl
  have F_pk := fun_mk (st := sPick) l_pk c_pk k_pk
  have b_pk := F_pk.binds (ps := ["_law_source_here", "_law_items"]) fun _ _ _ _ _ _ us hl => match us, hl with | [_, _], _ => rfl
  have F_lh := fun_mk (st := sLhex) l_lh c_lh k_lh
  have b_lh := F_lh.binds (ps := ["_law_some"]) fun _ _ _ _ _ _ us hl => match us, hl with | [_], _ => rfl
  have F_sd := fun_mk (st := sSaid) l_sd c_sd k_sd
  have b_sd := F_sd.binds (ps := ["_law_ask"]) fun _ _ _ _ _ _ us hl => match us, hl with | [_], _ => rfl
  have F_bn := fun_mk (st := sBent) l_bn c_bn k_bn
  have b_bn := F_bn.binds (ps := ["_law_source_here", "_law_word"]) fun _ _ _ _ _ _ us hl => match us, hl with | [_, _], _ => rfl
  have F_lw := fun_mk (st := sLaw) l_lw c_lw k_lw
  have M := fun {n : Str} {v : Value} (q : PySem.W.nsIn K mainGlobals n = some (some v)) => PySem.W.mg_of X G q
  have M0 := fun {n : Str} (q : PySem.W.nsIn K mainGlobals n = some none) => PySem.W.mg_none_of X G q
  let a : Ad := ⟨cN, cB, cT, f_ib, f_it, f_in, f_bt, f_ch, f_oc, f_os, f_hx, f_rd⟩
  let ld : Ld := ⟨f_sr, f_dr, f_pk, f_lh, f_sd, f_bn, f_rt⟩
  have xB : ExC K cB f_ib := ⟨⟨⟨nm_cB, qn_cB, N_cB, bs_cB, bm_cB, sn_cB, sub_cB, ab_cB, col_cB, dd_cB, m0_cB, m1_cB, m2_cB, m3_cB, m5_cB, xL_cB, xv_cB⟩, sa_cB, eC_cB, tC_cB, kC_cB⟩, ⟨ga_cB, gg_cB, eC_cB, hd_cB⟩, no_cB, a_ib, t_ib⟩
  have xT : ExC K cT f_it := ⟨⟨⟨nm_cT, qn_cT, N_cT, bs_cT, bm_cT, sn_cT, sub_cT, ab_cT, col_cT, dd_cT, m0_cT, m1_cT, m2_cT, m3_cT, m5_cT, xL_cT, xv_cT⟩, sa_cT, eC_cT, tC_cT, kC_cT⟩, ⟨ga_cT, gg_cT, eC_cT, hd_cT⟩, no_cT, a_it, t_it⟩
  have T : Txt K mg a := ⟨xB, xT, M aC_cN, M aC_cB, M aC_cT, M a_in, M a_bt, M a_ch, ⟨tH, M hx⟩, M a_oc, M a_os, M a_hx, M a_rd, M0 z_isinstance, M0 z_int, M0 z_bool, M0 z_enumerate, M0 z_zip, M0 z_len⟩
  have L : LTx mg ld := ⟨M a_sr, M a_dr, M a_pk, M a_lh, M a_sd, M a_bn, M a_rt, M0 z_abs, M0 z_int, M0 z_len, M0 z_range, M0 z_list, M0 z_tuple, M0 z_isinstance⟩
  have xm : Exm K a := ⟨exm_sub eC_cB iC_cB tC_cB s_bb, exm_sub eC_cB iC_cB tC_cB s_tb, exm_sub eC_cT iC_cT tC_cT s_tt⟩
  have bR : L2.Binds K (PySem.W.fnOf "_law_right" "_law_right" (defArgs sRight) (defBody sRight) (defScope sRight) .none kV_rt dc_rt pm_rt an_rt (.ref cR) ct_rt) ["_law_source_here"] [] := .all fun us hl => match us, hl with | [_], _ => rfl
  refine ⟨PySem.W.fnOf "law" "law" (defArgs sLaw) (defBody sLaw) (defScope sLaw) .none kV_lw dc_lw pm_lw an_lw cd_lw ct_lw, [(cR, pT)], spLaw K pT, fun p hp => ?_, fun p hp => ?_, fun p hp => ?_, fun s v => .of_eq rfl, fun H p ns hl _ hT hS => ⟨p, ns, rfl, hS, hl, hT (cR, pT) (List.mem_singleton.mpr rfl), fun _ => rfl⟩, fun base _ _ TB => ?_⟩
  · rw [List.mem_singleton.mp hp]
    exact tabP
  · rw [List.mem_singleton.mp hp]
    exact noP
  · rw [List.mem_singleton.mp hp]
    exact PySem.W.codeHd_of_K X hdP
  · have GC : FnOk l.prog w K mg base (L2.CX l.prog w) 3 f_ch _ ["data"] (spChk K cB) := ok_chk (a := a) F_ch T F_in b_in F_bt b_bt F_ib b_ib
    have GO : FnOk l.prog w K mg base CX0 2 f_os _ ["octets"] (spOcts K) := ok_octs (a := a) F_os T F_oc b_oc
    have GH : FnOk l.prog w K mg base (L2.CX l.prog w) 4 f_hx _ ["data"] (spHex K cB) := ok_hex (a := a) F_hx T F_ch b_ch GC F_os b_os GO
    have GR : FnOk l.prog w K mg base (L2.CX l.prog w) 3 f_rd _ ["text"] (spRead cT) := ok_read (a := a) F_rd T F_it b_it
    have GT := ok_right (P := l.prog) (w := w) (a := a) (l := ld) (pT := pT) l_rt c_rt T L xm (TB (cR, pT) (List.mem_singleton.mpr rfl)) F_dr b_dr F_pk b_pk F_lh b_lh F_bn b_bn F_hx b_hx GH F_rd b_rd GR F_sd b_sd
    exact ok_law (l := ld) F_lw L F_sr b_sr k_rt bR GT
end G58
open PySem PySem.W PyProof.Rows
set_option maxRecDepth 100000 in
set_option maxHeartbeats 0 in
theorem PySem.Challenge.cw_nestfile_k74_bytes_as_texts_holds : PySem.Challenge.rw_nestfile_k74_bytes_as_texts.Holds := by
  w_on; o_law; k_head; (case hw => w_witness2)
  k_fill
  refine LamX.walk_ofTs (l := PySem.Challenge.rw_nestfile_k74_bytes_as_texts) (n := 63) (k := 8) (x := "_law_script") (CX := fun _ => L2.CX0) rfl (by decide) rfl ⟨rfl, by decide, by decide⟩ (fun w h Y => PySem.W.km_in_of Y) ?F (fun _ _ _ _ _ z => z)
  case F =>
    intro w mg fa h Y KX G hmg
    refine' G58.all_mk KX G hmg ?aC_cB ?xL_cB ?xv_cB ?sa_cB ?ga_cB ?gg_cB ?no_cB ?hd_cB ?kC_cB ?eC_cB ?tC_cB ?iC_cB ?aC_cT ?xL_cT ?xv_cT ?sa_cT ?ga_cT ?gg_cT ?no_cT ?hd_cT ?kC_cT ?eC_cT ?tC_cT ?iC_cT ?aC_cN ?s_bb ?s_tb ?s_tt ?a_ib ?t_ib ?l_ib ?c_ib ?k_ib ?a_it ?t_it ?l_it ?c_it ?k_it ?a_in ?l_in ?c_in ?k_in ?a_bt ?l_bt ?c_bt ?k_bt ?a_ch ?l_ch ?c_ch ?k_ch ?a_oc ?l_oc ?c_oc ?k_oc ?a_os ?l_os ?c_os ?k_os ?a_hx ?l_hx ?c_hx ?k_hx ?a_rd ?l_rd ?c_rd ?k_rd ?a_sr ?l_sr ?c_sr ?k_sr ?a_dr ?l_dr ?c_dr ?k_dr ?a_pk ?l_pk ?c_pk ?k_pk ?a_lh ?l_lh ?c_lh ?k_lh ?a_sd ?l_sd ?c_sd ?k_sd ?a_bn ?l_bn ?c_bn ?k_bn ?a_rt ?l_rt ?c_rt ?k_rt ?a_lw ?l_lw ?c_lw ?k_lw ?z_isinstance ?z_int ?z_bool ?z_enumerate ?z_zip ?z_len ?z_abs ?z_range ?z_list ?z_tuple ?hx ?tabP ?noP ?hdP
    (case aC_cB => k_is)
    (case xL_cB => k_is)
    (case xv_cB => decide +kernel)
    (case sa_cB => k_is)
    (case ga_cB => k_is)
    (case gg_cB => k_is)
    (case no_cB => k_is)
    (case hd_cB => k_is)
    (case kC_cB => k_is)
    (case eC_cB => k_is)
    (case tC_cB => k_is)
    (case iC_cB => k_is)
    (case aC_cT => k_is)
    (case xL_cT => k_is)
    (case xv_cT => decide +kernel)
    (case sa_cT => k_is)
    (case ga_cT => k_is)
    (case gg_cT => k_is)
    (case no_cT => k_is)
    (case hd_cT => k_is)
    (case kC_cT => k_is)
    (case eC_cT => k_is)
    (case tC_cT => k_is)
    (case iC_cT => k_is)
    (case aC_cN => k_is)
    (case s_bb => first | rfl | k_is)
    (case s_tb => k_is)
    (case s_tt => first | rfl | k_is)
    (case a_ib => k_is)
    (case t_ib => k_is)
    (case l_ib => k_is)
    (case c_ib => k_is)
    (case k_ib => k_is)
    (case a_it => k_is)
    (case t_it => k_is)
    (case l_it => k_is)
    (case c_it => k_is)
    (case k_it => k_is)
    (case a_in => k_is)
    (case l_in => k_is)
    (case c_in => k_is)
    (case k_in => k_is)
    (case a_bt => k_is)
    (case l_bt => k_is)
    (case c_bt => k_is)
    (case k_bt => k_is)
    (case a_ch => k_is)
    (case l_ch => k_is)
    (case c_ch => k_is)
    (case k_ch => k_is)
    (case a_oc => k_is)
    (case l_oc => k_is)
    (case c_oc => k_is)
    (case k_oc => k_is)
    (case a_os => k_is)
    (case l_os => k_is)
    (case c_os => k_is)
    (case k_os => k_is)
    (case a_hx => k_is)
    (case l_hx => k_is)
    (case c_hx => k_is)
    (case k_hx => k_is)
    (case a_rd => k_is)
    (case l_rd => k_is)
    (case c_rd => k_is)
    (case k_rd => k_is)
    (case a_sr => k_is)
    (case l_sr => k_is)
    (case c_sr => k_is)
    (case k_sr => k_is)
    (case a_dr => k_is)
    (case l_dr => k_is)
    (case c_dr => k_is)
    (case k_dr => k_is)
    (case a_pk => k_is)
    (case l_pk => k_is)
    (case c_pk => k_is)
    (case k_pk => k_is)
    (case a_lh => k_is)
    (case l_lh => k_is)
    (case c_lh => k_is)
    (case k_lh => k_is)
    (case a_sd => k_is)
    (case l_sd => k_is)
    (case c_sd => k_is)
    (case k_sd => k_is)
    (case a_bn => k_is)
    (case l_bn => k_is)
    (case c_bn => k_is)
    (case k_bn => k_is)
    (case a_rt => k_is)
    (case l_rt => k_is)
    (case c_rt => k_is)
    (case k_rt => k_is)
    (case a_lw => k_is)
    (case l_lw => k_is)
    (case c_lw => k_is)
    (case k_lw => k_is)
    (case z_isinstance => k_is)
    (case z_int => k_is)
    (case z_bool => k_is)
    (case z_enumerate => k_is)
    (case z_zip => k_is)
    (case z_len => k_is)
    (case z_abs => k_is)
    (case z_range => k_is)
    (case z_list => k_is)
    (case z_tuple => k_is)
    (case hx => k_is)
    (case tabP => exact PySem.W.km_tabs_of Y _ (List.mem_singleton.mpr rfl))
    (case noP => first | rfl | kernel_rfl | decide +kernel)
    (case hdP => first | rfl | kernel_rfl | decide +kernel)
#print axioms PySem.Challenge.cw_nestfile_k74_bytes_as_texts_holds
