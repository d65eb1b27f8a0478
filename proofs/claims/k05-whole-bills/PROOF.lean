import PyProof.Rows.All
import Wide.All
import OpenK.AllK
import Wide.FinOn
import HandS.ForMost
import HandS.IsInst
import HandS.TupAny
import HandS.TupMul
import HandS.SortInts
import HandS.Defaults
import HandS.HeadEnd
import KE.GoesNew
import KE.KTupSum
import KE.KStateDown
import HandS.Walk
import PyProof.ReprRoads
import PyProof.Rows.SortShellAny
import PyProof.TupleOfSeq
import PyProof.Rows.RegStrFacts
import PyProof.ReprLen
import HandS.Head0
import HandS.Head1
import HandS.Head2
import HandS.HeadHook1
import HandS.HeadHook2
import PySem.Challenge.RW_bestoflast_k05_whole_bills
set_option Elab.async false
set_option linter.all false
set_option maxRecDepth 100000
set_option maxHeartbeats 8000000
/-! Rules that this proof adds: enumerate over a tuple, zip of a tuple and a list, sorted and sum of a tuple, repr of data, calls of defs that know that no repr runs around them. -/
namespace Bo
open PySem PySem.Spec PyProof.Rows L2

/-! ### enumerate(tuple) -/
theorem enumNew {v : Value} {o : Obj} {G : Heap → Prop} (B : Begins v o G) :
    Meets (Builtin.«enumerate.__new__» ⟨[.type "enumerate", v], []⟩) (fun _ R s => G s.heap ∧
      R (.ok (.ret (.ref (s.heap.push o).objs.size)))
        { s with heap := (s.heap.push o).push { cls := .type "enumerate", data := .fields #[.none, .bool false, .ref s.heap.objs.size, rawInt 0, .none, .none] } }) :=
  .of_wp fun prog w A R s h => by
    obtain ⟨hp, g, d, tk, os⟩ := s
    obtain ⟨h1, h⟩ := h
    have hsub := sub_enumerate
    have begun : ∀ {A' : Around} {E : Value → Shared → Prop} {Q : Value → Shared → Prop}, Q (.ref hp.objs.size) ⟨hp.push o, g, d, tk, os⟩ → wpAny (model prog w) A' (pyIter v) Q E ⟨hp, g, d, tk, os⟩ :=
      fun q => B.iter prog w _ _ ⟨hp, g, d, tk, os⟩ _ h1 q
    wp_walk using begun
    refine wpAny_stack_any fun st => wpAny_pure ?_
    split
    · rename_i c _ _ _ _ _
      cases (c == Value.type "enumerate")
      · wp_walk using begun
        exact ⟨_, rfl, h⟩
      · wp_walk using begun
        exact ⟨_, rfl, h⟩
    · wp_walk using begun
      exact ⟨_, rfl, h⟩

theorem enumCall {prog : Program} {w : World} {A : Around} {E : Value → Shared → Prop} {s : Shared} {v : Value} {o : Obj} {G : Heap → Prop} {Q : Value → Shared → Prop} (B : Begins v o G) (h1 : G s.heap)
    (h : ∀ h', IsEnum h' (s.heap.objs.size + 1) s.heap.objs.size 0 .none → h'.get? s.heap.objs.size = some o → (∀ b ob, s.heap.get? b = some ob → h'.get? b = some ob) → Q (.ref (s.heap.objs.size + 1)) { s with heap := h' }) :
    wpAny (model prog w) A (call (.type "enumerate") [v]) Q E s := by
  refine callType_new F.called_enumerate (by decide) (F.typeCall_enumerate_1 _) (F.newCall_enumerate_1 _) (fun obj => F.args_object_init_2 obj _) F.entry_enumerate_new (enumNew B) ⟨h1, ?_⟩
  have hz : (s.heap.push o).objs.size = s.heap.objs.size + 1 := Heap.size_push ..
  show _ ∧ _
  rw [hz]
  have he : IsEnum ((s.heap.push o).push { cls := .type "enumerate", data := .fields #[.none, .bool false, .ref s.heap.objs.size, rawInt 0, .none, .none] }) (s.heap.objs.size + 1) s.heap.objs.size 0 .none := by
    have z := Heap.get?_push_size (s.heap.push o) (o := { cls := .type "enumerate", data := .fields #[.none, .bool false, .ref s.heap.objs.size, rawInt 0, .none, .none] }) rfl
    rw [hz] at z
    exact z
  exact ⟨⟨_, he, rfl⟩, h _ he (Heap.get?_push_of_some _ (Heap.get?_push_size _ B.free)) fun b ob x => Heap.get?_push_of_some _ (Heap.get?_push_of_some _ x)⟩

/-- the tuple at a as it stands at each turn, with its places, in new pairs -/
def EnumT (K : PySem.W.Frag) (a : Addr) : It :=
  ⟨fun i H => ∃ (xs : List V) (x : V), SqT K H a xs ∧ xs[i]? = some x,
    fun i H v H' => ∃ T x, v = .ref T ∧ H T = none ∧ H' = upd H T (.tup [.int (i : Nat), x]) ∧ ∀ xs, SqT K H a xs → xs[i]? = some x,
    fun i H => ∃ xs : List V, SqT K H a xs ∧ xs.length = i⟩

theorem inb_of {xs : List V} {i : Nat} {x : V} (h : xs[i]? = some x) : i < xs.length := by
  obtain ⟨q, _⟩ := List.getElem?_eq_some_iff.mp h
  exact q

theorem turn_enumT {P : Program} {w : World} {K : PySem.W.Frag} {elts : List Expr} {kk : Nat} {tpos : Pos} (a e it : Addr) :
    Turn P w K (.Tuple elts kk tpos) (EnumT K a) [e, it] e (fun i h => (∃ old, IsEnum h e it ((0 : Int) + (i : Int)) old) ∧ h.IsTupleIter it a i ∧ e ≠ it ∧ e ≠ a ∧ it ≠ a) where
  mem := by simp
  obj := fun i h st b hb => by
    obtain ⟨⟨old, he⟩, ⟨o, ho, hc, hd⟩, _⟩ := st
    rcases List.mem_cons.mp hb with z | z
    · rw [z]; exact ⟨_, he, fun v q => nomatch q⟩
    · rw [List.mem_singleton.mp z]; exact ⟨o, ho, fun v q => by rw [hd] at q; cases q⟩
  keep := fun i h h' st k => by
    obtain ⟨⟨old, he⟩, hi, hne⟩ := st
    exact ⟨⟨old, k e (by simp) _ he⟩, hi.at fun o q => k it (by simp) o q, hne⟩
  item := by
    intro X hP hw hK hc i pins s σ H E I hf st hg
    subst hP hw hK
    obtain ⟨⟨old, he⟩, hit, hne, hea, hita⟩ := st
    obtain ⟨xs, x, hq, hx⟩ := hg
    obtain ⟨its, rv, p, hz⟩ := I.tuple hq
    obtain ⟨u, hu, ru⟩ := rv.get hx
    have hT : s.heap.IsTuple a its.toArray := p
    have hh : X.A.in1.handled = none := I.ok.hd hc
    have hi : i < its.toArray.size := by rw [List.size_toArray, ← rv.length]; exact inb_of hx
    have D := Draws.tuple (prog := X.prog) (w := X.w) hh it a hita.symm its.toArray
    have W := GoesN.enumFrom (elts := elts) (x1 := kk) (pos := tpos) 0 D e hne (by simp [hne, hea]) (by simp)
    have hel : e < s.heap.objs.size := Heap.lt_size he
    have hil : it < s.heap.objs.size := by obtain ⟨_, q, _⟩ := hit; exact Heap.lt_size q
    refine W.goes i s _ E hi ⟨⟨old, he⟩, hit, hT⟩ fun v h' tk hY st' hk _ => ?_
    obtain ⟨T, t, y, rfl, hnew, hy, hTT⟩ := hY
    have ey : y = u := by
      have z : its.toArray[i]? = some u := by simpa using hu
      exact Option.some.inj (hy.symm.trans z)
    subst ey
    have new : ObjOk X.prog X.w (upd H T (.tup [.int (i : Nat), x])) h' T (.tup [.int (i : Nat), x]) :=
      ⟨by show 2 ≤ sizeLine; decide, [.int (0 + (i : Int)) t, y], .cons ⟨t, by rw [Int.zero_add]⟩ (.cons ru .nil), hTT⟩
    have I1 : Inv X pins σ (upd H T (.tup [.int (i : Nat), x])) { s with heap := h', toks := tk } := I.turnedNew (ch := [e, it]) hk hf hnew new
    obtain ⟨⟨old', he'⟩, hit', _⟩ := st'
    refine ⟨.ref T, _, I1, rfl, ⟨T, x, rfl, I.hok.fresh hnew, rfl, fun ys hys => by rw [I.tuple_inj hys hq]; exact hx⟩, ⟨⟨old', he'⟩, hit', hne, hea, hita⟩, fun b hb => ?_⟩
    have hlt : b < s.heap.objs.size := by
      rcases List.mem_cons.mp hb with z | z
      · rw [z]; exact hel
      · rw [List.mem_singleton.mp z]; exact hil
    rw [upd_ne (Nat.ne_of_lt (Nat.lt_of_lt_of_le hlt hnew))]
    exact (hf b hb).1
  done := by
    intro X hP hw hK hc i pins s σ H E I hf st hg
    subst hP hw hK
    obtain ⟨⟨old, he⟩, hit, hne, hea, hita⟩ := st
    obtain ⟨xs, hq, hx⟩ := hg
    obtain ⟨its, rv, p, hz⟩ := I.tuple hq
    have hT : s.heap.IsTuple a its.toArray := p
    have hh : X.A.in1.handled = none := I.ok.hd hc
    have hi : its.toArray.size = i := by rw [List.size_toArray, ← rv.length]; exact hx
    subst hi
    have D := Draws.tuple (prog := X.prog) (w := X.w) hh it a hita.symm its.toArray
    have W := GoesN.enumFrom (elts := elts) (x1 := kk) (pos := tpos) 0 D e hne (by simp [hne, hea]) (by simp)
    exact W.stops s _ E ⟨⟨old, he⟩, hit, hT⟩ fun h' tk hk _ => I.turnedL (ch := [e, it]) hk hf
  self := fun A i s Q E st h => by
    obtain ⟨⟨_, he⟩, _⟩ := st
    exact wpAny_pyIter_enum he h

def iEnumT (K : PySem.W.Frag) (ta : TA) : TI := fun σ H R => ta σ H fun vs H1 => ∃ a xs, vs = [.ref a] ∧ SqT K H1 a xs ∧ R (EnumT K a) H1
theorem pi_enumT {X : Cx} {e : Expr} {ta : TA} {p pos tpos : Pos} {elts : List Expr} {kk : Nat} (hg : Gl X "enumerate") (hm : X.mg "enumerate" = none) (ha : PA X [e] ta)
    (hs : starEach [e] X.env = [(false, eval e X.env)] := by rfl) :
    PI X (.Tuple elts kk tpos) (.Call (.Name "enumerate" p) [e] [] pos) (iEnumT X.K ta) := by
  refine ⟨fun pins s σ H R I h => ?_⟩
  refine Call_ (ld_blt I hg hm boot_enumerate (PyProof.Rows.callWith_type1 (thn (ha.run pos pins s σ H _ I h) fun us s1 ⟨vs, H1, I1, r1, q1⟩ => ?_) hs rfl))
  obtain ⟨a, xs, ex, hq, q⟩ := q1
  subst ex
  cases r1 with
  | cons r rr =>
    cases rr
    cases r
    obtain ⟨its, rv, p', hz⟩ := I1.tuple hq
    have hT : s1.heap.IsTuple a its.toArray := p'
    have hal : a < s1.heap.objs.size := by obtain ⟨_, z, _⟩ := hT; exact Heap.lt_size z
    refine enumCall (begins_tuple a its.toArray) hT fun h' he hit hk => wpAny_pyIter_enum he ?_
    have I2 : Inv X pins σ H1 { s1 with heap := h' } := I1.kept (t' := s1.toks) hk
    have n1 : s1.heap.objs.size + 1 ≠ a := Nat.ne_of_gt (Nat.lt_succ_of_lt hal)
    refine ⟨s1.heap.objs.size + 1, [s1.heap.objs.size + 1, s1.heap.objs.size], _, _, H1, rfl, I2, turn_enumT a (s1.heap.objs.size + 1) s1.heap.objs.size,
      ⟨⟨.none, he⟩, ⟨_, hit, rfl, rfl⟩, Nat.succ_ne_self _, n1, Nat.ne_of_gt hal⟩, fun b hb => ?_, q⟩
    have hle : s1.heap.objs.size ≤ b := by
      rcases List.mem_cons.mp hb with z | z
      · rw [z]; exact Nat.le_add_right _ _
      · rw [List.mem_singleton.mp z]; exact Nat.le_refl _
    exact I1.fpOk hle (I1.hok.fresh hle)
end Bo
namespace Bo
open PySem PySem.Spec PyProof.Rows L2

theorem walk_enumT {K : PySem.W.Frag} {a : Addr} {xs : List V} : Walk (EnumT K a) xs.length (fun H => SqT K H a xs) (YPair (fun i => some (.int (i : Nat))) (fun i => xs[i]?)) := by
  refine ⟨fun i _ hi q => ⟨xs, xs[i], q, by simp [hi]⟩, fun _ q => ⟨xs, q, rfl⟩, fun i H v H' _ q y => ?_⟩
  obtain ⟨T, x, h1, h2, h3, h4⟩ := y
  exact ⟨T, .int (i : Nat), x, h1, h2, h3, rfl, h4 xs q⟩

/-! ### zip(tuple, list) -/
def ZipM (K : PySem.W.Frag) (a b : Addr) : It :=
  ⟨fun i H => ∃ (xs ys : List V) (x y : V), SqT K H a xs ∧ SqL K H b ys ∧ xs[i]? = some x ∧ ys[i]? = some y,
    fun i H v H' => ∃ T x y, v = .ref T ∧ H T = none ∧ H' = upd H T (.tup [x, y]) ∧ (∀ xs, SqT K H a xs → xs[i]? = some x) ∧ ∀ ys, SqL K H b ys → ys[i]? = some y,
    fun i H => ∃ xs ys : List V, SqT K H a xs ∧ SqL K H b ys ∧ min xs.length ys.length = i⟩

theorem turn_zipM {P : Program} {w : World} {K : PySem.W.Frag} {elts : List Expr} {kk : Nat} {tpos : Pos} {a b z TI TO i1 i2 : Addr} (S : ZipSep2 z TI TO i1 i2 [i1, a] [i2, b]) :
    Turn P w K (.Tuple elts kk tpos) (ZipM K a b) [z, TI, TO, i1, i2] z (fun i h => IsZip h z TI TO .none ∧ IsTupOf2 h TI (.ref i1) (.ref i2) ∧ (∃ x y, IsTupOf2 h TO x y) ∧ h.IsTupleIter i1 a i ∧ h.IsListIter i2 b i) where
  mem := by simp
  obj := fun i h st c hc => by
    obtain ⟨hz, hTI, ⟨x, y, hTO⟩, ⟨o1, e1, _, d1⟩, ⟨o2, e2, _, d2⟩⟩ := st
    simp only [List.mem_cons, List.not_mem_nil, or_false] at hc
    rcases hc with q | q | q | q | q <;> rw [q]
    · exact ⟨_, hz, fun v q => nomatch q⟩
    · exact ⟨_, hTI, fun v q => nomatch q⟩
    · exact ⟨_, hTO, fun v q => nomatch q⟩
    · exact ⟨o1, e1, fun v q => by rw [d1] at q; cases q⟩
    · exact ⟨o2, e2, fun v q => by rw [d2] at q; cases q⟩
  keep := fun i h h' st k => by
    obtain ⟨hz, hTI, ⟨x, y, hTO⟩, h1, h2⟩ := st
    exact ⟨k z (by simp) _ hz, k TI (by simp) _ hTI, ⟨x, y, k TO (by simp) _ hTO⟩, h1.at fun o q => k i1 (by simp) o q, h2.at fun o q => k i2 (by simp) o q⟩
  item := by
    intro X hP hw hK hc i pins s σ H E I hf st hg
    subst hP hw hK
    obtain ⟨hz, hTI, ⟨x0, y0, hTO⟩, h1, h2⟩ := st
    obtain ⟨xs, ys, x, y, hqx, hqy, hx, hy⟩ := hg
    obtain ⟨its, rv, p, _⟩ := I.tuple hqx
    obtain ⟨its2, rv2, p2, _⟩ := I.list hqy
    obtain ⟨u, hu, ru⟩ := rv.get hx
    obtain ⟨u2, hu2, ru2⟩ := rv2.get hy
    have hT1 : s.heap.IsTuple a its.toArray := p
    have hT2 : s.heap.IsList b its2.toArray := p2.isList
    have hh : X.A.in1.handled = none := I.ok.hd hc
    have hi : i < min its.toArray.size its2.toArray.size := by
      rw [List.size_toArray, List.size_toArray, ← rv.length, ← rv2.length]
      exact Nat.lt_min.mpr ⟨inb_of hx, inb_of hy⟩
    have ha1 : a ≠ i1 := fun q => by
      obtain ⟨o1, e1, c1, _⟩ := h1
      obtain ⟨o2, e2, c2, _⟩ := hT1
      rw [q, e1] at e2; cases e2
      rw [c1] at c2
      exact absurd c2 (by decide)
    have hb2 : b ≠ i2 := fun q => by
      obtain ⟨o1, e1, c1, _⟩ := h2
      obtain ⟨o2, e2, c2, _⟩ := hT2
      rw [q, e1] at e2; cases e2
      rw [c1] at c2
      exact absurd c2 (by decide)
    have D1 := Draws.tuple (prog := X.prog) (w := X.w) hh i1 a ha1 its.toArray
    have D2 := Draws.list (prog := X.prog) (w := X.w) hh i2 b hb2 its2.toArray
    have W := GoesN.zip2 (elts := elts) (x1 := kk) (pos := tpos) S D1 D2
    refine W.goes i s _ E hi ⟨hz, hTI, ⟨x0, y0, hTO⟩, ⟨h1, hT1⟩, ⟨h2, hT2⟩⟩ fun v h' tk hY st' hk _ => ?_
    obtain ⟨T, v1, v2, rfl, hnew, hv1, hv2, hTT⟩ := hY
    have e1 : v1 = u := Option.some.inj (hv1.symm.trans (show its.toArray[i]? = some u by simpa using hu))
    have e2 : v2 = u2 := Option.some.inj (hv2.symm.trans (show its2.toArray[i]? = some u2 by simpa using hu2))
    subst e1 e2
    have new : ObjOk X.prog X.w (upd H T (.tup [x, y])) h' T (.tup [x, y]) := ⟨by show 2 ≤ sizeLine; decide, [v1, v2], .cons ru (.cons ru2 .nil), hTT⟩
    have hk2 : ∀ c o, c ∉ [z, TI, TO, i1, i2] → s.heap.get? c = some o → h'.get? c = some o := fun c o hc q => hk c o (fun hm => hc (by
      simp only [List.mem_cons, List.not_mem_nil, or_false] at hm ⊢
      rcases hm with m | m | m | m <;> simp [m])) q
    have I1 : Inv X pins σ (upd H T (.tup [x, y])) { s with heap := h', toks := tk } := I.turnedNew (ch := [z, TI, TO, i1, i2]) hk2 hf hnew new
    obtain ⟨hz', hTI', hTO', ⟨h1', _⟩, ⟨h2', _⟩⟩ := st'
    refine ⟨.ref T, _, I1, rfl, ⟨T, x, y, rfl, I.hok.fresh hnew, rfl, fun l hl => by rw [I.tuple_inj hl hqx]; exact hx, fun l hl => by rw [I.list_inj hl hqy]; exact hy⟩, ⟨hz', hTI', hTO', h1', h2'⟩, fun c hcm => ?_⟩
    have hlt : c < s.heap.objs.size := by
      simp only [List.mem_cons, List.not_mem_nil, or_false] at hcm
      rcases hcm with q | q | q | q | q <;> rw [q]
      · exact Heap.lt_size hz
      · exact Heap.lt_size hTI
      · exact Heap.lt_size hTO
      · obtain ⟨_, e1, _⟩ := h1; exact Heap.lt_size e1
      · obtain ⟨_, e2, _⟩ := h2; exact Heap.lt_size e2
    rw [upd_ne (Nat.ne_of_lt (Nat.lt_of_lt_of_le hlt hnew))]
    exact (hf c hcm).1
  done := by
    intro X hP hw hK hc i pins s σ H E I hf st hg
    subst hP hw hK
    obtain ⟨hz, hTI, ⟨x0, y0, hTO⟩, h1, h2⟩ := st
    obtain ⟨xs, ys, hqx, hqy, hend⟩ := hg
    obtain ⟨its, rv, p, _⟩ := I.tuple hqx
    obtain ⟨its2, rv2, p2, _⟩ := I.list hqy
    have hT1 : s.heap.IsTuple a its.toArray := p
    have hT2 : s.heap.IsList b its2.toArray := p2.isList
    have hh : X.A.in1.handled = none := I.ok.hd hc
    have hi : min its.toArray.size its2.toArray.size = i := by
      rw [List.size_toArray, List.size_toArray, ← rv.length, ← rv2.length]
      exact hend
    subst hi
    have ha1 : a ≠ i1 := fun q => by
      obtain ⟨o1, e1, c1, _⟩ := h1
      obtain ⟨o2, e2, c2, _⟩ := hT1
      rw [q, e1] at e2; cases e2
      rw [c1] at c2
      exact absurd c2 (by decide)
    have hb2 : b ≠ i2 := fun q => by
      obtain ⟨o1, e1, c1, _⟩ := h2
      obtain ⟨o2, e2, c2, _⟩ := hT2
      rw [q, e1] at e2; cases e2
      rw [c1] at c2
      exact absurd c2 (by decide)
    have D1 := Draws.tuple (prog := X.prog) (w := X.w) hh i1 a ha1 its.toArray
    have D2 := Draws.list (prog := X.prog) (w := X.w) hh i2 b hb2 its2.toArray
    have W := GoesN.zip2 (elts := elts) (x1 := kk) (pos := tpos) S D1 D2
    refine W.stops s _ E ⟨hz, hTI, ⟨x0, y0, hTO⟩, ⟨h1, hT1⟩, ⟨h2, hT2⟩⟩ fun h' tk hk _ => I.turnedL (ch := [z, TI, TO, i1, i2]) (fun c o hc q => hk c o (fun hm => hc (by
      simp only [List.mem_cons, List.not_mem_nil, or_false] at hm ⊢
      rcases hm with m | m | m | m <;> simp [m])) q) hf
  self := fun A i s Q E st h => wpAny_pyIter_zip st.1 h

def iZipM (K : PySem.W.Frag) (ta : TA) : TI := fun σ H R => ta σ H fun vs H1 => ∃ a b xs ys, vs = [.ref a, .ref b] ∧ SqT K H1 a xs ∧ SqL K H1 b ys ∧ R (ZipM K a b) H1
theorem pi_zipM {X : Cx} {e e2 : Expr} {ta : TA} {p pos tpos : Pos} {elts : List Expr} {kk : Nat} (hg : Gl X "zip") (hm : X.mg "zip" = none) (ha : PA X [e, e2] ta)
    (hs : starEach [e, e2] X.env = (false, eval e X.env) :: starEach [e2] X.env := by rfl) (hpl : (backTo pos (starEach [e2] X.env)).any (·.1) = false := by rfl) :
    PI X (.Tuple elts kk tpos) (.Call (.Name "zip" p) [e, e2] [] pos) (iZipM X.K ta) := by
  refine ⟨fun pins s σ H R I h => ?_⟩
  refine Call_ (ld_blt I hg hm PyProof.Rows.boot_zip (PyProof.Rows.callWith_type1 (thn (ha.run pos pins s σ H _ I h) fun us s1 ⟨vs, H1, I1, r1, q1⟩ => ?_) hs hpl))
  obtain ⟨a, b, xs, ys, ex, hqx, hqy, q⟩ := q1
  subst ex
  cases r1 with
  | cons r rr =>
    cases rr with
    | cons r' rr =>
      cases rr
      cases r
      cases r'
      obtain ⟨its, rv, p1, _⟩ := I1.tuple hqx
      obtain ⟨its2, rv2, p2, _⟩ := I1.list hqy
      have hT1 : s1.heap.IsTuple a its.toArray := p1
      have hT2 : s1.heap.IsList b its2.toArray := p2.isList
      have hal : a < s1.heap.objs.size := by obtain ⟨_, z, _⟩ := hT1; exact Heap.lt_size z
      have hbl : b < s1.heap.objs.size := by obtain ⟨_, z, _⟩ := hT2; exact Heap.lt_size z
      have fresh5 : ∀ c, c ∈ [s1.heap.objs.size + 4, s1.heap.objs.size + 2, s1.heap.objs.size + 3, s1.heap.objs.size, s1.heap.objs.size + 1] → FpOk X pins H1 c := fun c hcm => by
        have hle : s1.heap.objs.size ≤ c := by
          simp only [List.mem_cons, List.not_mem_nil, or_false] at hcm
          rcases hcm with z | z | z | z | z <;> rw [z]
          · exact Nat.le_add_right _ _
          · exact Nat.le_add_right _ _
          · exact Nat.le_add_right _ _
          · exact Nat.le_refl _
          · exact Nat.le_add_right _ _
        exact I1.fpOk hle (I1.hok.fresh hle)
      refine zip_begins2 (begins_tuple a its.toArray) (begins_list b its2.toArray) hT1 hT2 fun h' hz hTI hTO h1 h2 hsz hk => wpAny_pyIter_zip hz ?_
      have I2 : Inv X pins σ H1 { s1 with heap := h' } := I1.kept (t' := s1.toks) hk
      have S : ZipSep2 (s1.heap.objs.size + 4) (s1.heap.objs.size + 2) (s1.heap.objs.size + 3) s1.heap.objs.size (s1.heap.objs.size + 1) [s1.heap.objs.size, a] [s1.heap.objs.size + 1, b] :=
        zip_sep2 (fun c hc => by rw [List.mem_singleton.mp hc]; exact hal) (fun c hc => by rw [List.mem_singleton.mp hc]; exact hbl)
      exact ⟨s1.heap.objs.size + 4, [s1.heap.objs.size + 4, s1.heap.objs.size + 2, s1.heap.objs.size + 3, s1.heap.objs.size, s1.heap.objs.size + 1], _, _, H1, rfl, I2, turn_zipM S,
        ⟨hz, hTI, ⟨_, _, hTO⟩, ⟨_, h1, rfl, rfl⟩, ⟨_, h2, rfl, rfl⟩⟩, fresh5, q⟩

theorem walk_zipM {K : PySem.W.Frag} {a b : Addr} {xs ys : List V} {n : Nat} (hn : n = min xs.length ys.length) :
    Walk (ZipM K a b) n (fun H => SqT K H a xs ∧ SqL K H b ys) (YPair (fun i => xs[i]?) (fun i => ys[i]?)) := by
  subst hn
  refine ⟨fun i _ hi q => ?_, fun _ q => ⟨xs, ys, q.1, q.2, rfl⟩, fun i H v H' _ q y => ?_⟩
  · have h1 : i < xs.length := by omega
    have h2 : i < ys.length := by omega
    exact ⟨xs, ys, xs[i], ys[i], q.1, q.2, by simp [h1], by simp [h2]⟩
  · obtain ⟨T, x, z, h1, h2, h3, h4, h5⟩ := y
    exact ⟨T, x, z, h1, h2, h3, h4 xs q.1, h5 ys q.2⟩
end Bo
namespace Bo
open PySem PySem.Spec PyProof.Rows L2

/-! ### sum(tuple), sorted(tuple) -/
def rSumT (K : PySem.W.Frag) : List V → Hp → VK → Prop := fun vs H Q => ∃ (a : Addr) (ns : List Int), vs = [V.ref a] ∧ SqT K H a (ns.map V.int) ∧ Q (.int ns.sum) H
theorem cr_sumT {X : Cx} (hc : X.calm = true) : CallR X (.builtin "sum") (rSumT X.K) := by
  intro pins s σ H vs us Q I r h
  obtain ⟨a, ns, rfl, hs, q⟩ := h
  obtain ⟨its, rv, hl, _⟩ := I.tuple hs
  rw [Vals.ref1 r]
  have hi : IntsAre its ns := rv.ints
  obtain ⟨xs, ex⟩ := hi.allInts.items
  have hn : numsOf (intItems xs).toList = ns := by rw [← ex]; exact hi.numsOf
  rw [nums_intItems] at hn
  have hT : s.heap.IsTuple a (intItems xs) := by rw [← ex]; exact hl
  refine PySem.W.ktm_sumG (I.ok.hd hc) hT fun h' tk t' hk => ?_
  rw [preSum_eq, List.take_of_length_le (by simp), hn]
  exact ⟨.int _, H, I.kept hk, ⟨_, rfl⟩, q⟩

/-- sorted(t), t a tuple of ints: a new list of the same ints, rising -/
def rSortT (K : PySem.W.Frag) : List V → Hp → VK → Prop := fun vs H Q => ∃ (t : Addr) (ns : List Int), vs = [V.ref t] ∧ SqT K H t (ns.map V.int) ∧
  ∀ (up : List Int) (c : Addr), up.Perm ns → up.Pairwise (· ≤ ·) → H c = none → Q (.ref c) (upd H c (.lst (up.map V.int)))
theorem cr_sortT {X : Cx} : CallR X (.builtin "sorted") (rSortT X.K) := by
  intro pins s σ H args us Q I rel want
  obtain ⟨t, ns, rfl, hT, q⟩ := want
  rw [Vals.ref1 rel]
  obtain ⟨its, rv, ⟨o, ho, hcls, ep, hdat⟩, hz⟩ := I.tuple hT
  have hI : IntsAre its ns := rv.ints
  have hL : its.length ≤ sizeLine := by rw [← rv.length]; exact hz
  refine Calls.call_function_entry kind_sorted plain_sorted entry_sorted (args_sorted1 _) ?_
  unfold Builtin.«sorted»
  refine wpAny_bind (m := checkCount "sorted" 1 1 _) (wpAny_pure (wpAny_bind ?_))
  refine wpAny_collect_seq t (.inr rfl) ho hcls hdat (fun h1 k1 => wpAny_bind (wpAny_newList ?_)) (by simpa using hL)
  -- the copy stands at the end of h1, and is sorted there
  have I1 : Inv X pins σ H { s with heap := h1 } := I.kept (t' := s.toks) k1
  have copy : (h1.push (seqObj "list" its.toArray 0)).get? h1.objs.size = some (seqObj "list" its.toArray 0) := Heap.get?_push_size _ rfl
  refine wpAny_bind (wpAny_holding (wpAny_call_entry slot_list_sort ⟨_, copy, rfl⟩ entry_list_sort (list_sort_treeAny copy hI hL fun out up b1 b2 b3 => ⟨_, rfl, wpAny_pure ⟨_, rfl, ?_⟩⟩) (args_list_sort _)))
  obtain ⟨e2, he2⟩ := sortedHeap_at (vs := its) (out := out) copy
  have old : ∀ b u, h1.get? b = some u → (sortedHeap (h1.push (seqObj "list" its.toArray 0)) h1.objs.size its out).get? b = some u := fun b u hb => by
    rw [sortedHeap_old (Nat.ne_of_lt (Heap.lt_size hb)) (Nat.lt_of_lt_of_le (Heap.lt_size hb) (by rw [Heap.size_push]; exact Nat.le_succ _))]
    exact Heap.get?_push_of_some _ hb
  have fits : (up.map V.int).length ≤ sizeLine := by
    have := b2.length_eq
    rw [List.length_map] at hz ⊢
    omega
  exact ⟨.ref h1.objs.size, upd H h1.objs.size (.lst (up.map V.int)), I1.laid (t' := s.toks) old (Nat.le_refl _) ⟨fits, out.toList, e2, vals_of_ints b1, by simpa using he2⟩, rfl, q up _ b2 b3 (I1.hok.fresh (Nat.le_refl _))⟩

/-! ### repr of data -/
def rRepr (K : PySem.W.Frag) : List V → Hp → VK → Prop := fun xs H Q => ∃ (a : Addr) (d : PyData), xs = [V.ref a] ∧ Dp K H (.ref a) d ∧ d.showable = true ∧ d.hasDict = false ∧ d.shown.length ≤ sizeLine ∧ d.depth ≤ 20 ∧ Q (.str d.shown) H
theorem cr_repr {X : Cx} (hg : X.A.guards = some []) (hu : X.A.units + 64 < cLine) : CallR X (.builtin "repr") (rRepr X.K) := by
  intro pins s σ H xs us Q I r h
  obtain ⟨a, d, rfl, hd, h1, h2, h3, h4, q⟩ := h
  rw [Vals.ref1 r]
  obtain ⟨as, rd⟩ := Dp.reads I d (.ref a) (.ref a) hd rfl
  refine repr_of_reads' rd h1 (PyData.noDict_hsm h2) hg (by omega) (fun _ _ e => e) (fun h' u tk hk => ?_) h3
  exact ⟨.str d.shown, H, I.kept hk, ⟨u, rfl⟩, q⟩

/-! ### defs that may ask repr: no repr runs around them -/
structure FnG (P : Program) (w : World) (K : PySem.W.Frag) (mg : Str → Option Value) (base : Heap) (k : Nat) (f : Addr) (fd : FuncData) (ps : List Str) (sp : Sp) : Prop where
  len : ∀ vs H Q E, sp vs H Q E → vs.length = ps.length
  run : ∀ (A : Around) (outer : List Env) (s : Shared) (H : Hp) (args : Args) (us : List Value) (vs : List V) (Q : VK) (E : XK), A.guards = some [] → Room k A → Env0 P w K mg base A outer s H →
    BindsTo s fd args (ps.zip us) → Vals vs us → sp vs H Q E → codeAny (model P w) A (.call (.ref f) args) (CR CX0 outer P w H s Q E) s

section
variable {P : Program} {w : World} {K : PySem.W.Frag} {mg : Str → Option Value} {base : Heap} {x qual : Str} {params : Arguments} {body : List Stmt} {scope : Scope} {dvs : List V} {kws : List (Str × V)} {f : Addr} {fd : FuncData}
theorem fnG_of {N ps : List Str} {k : Nat} {sp : Sp} (F : FunD K x qual params body scope dvs kws f fd) (S : FnScope N ps scope) (len : ∀ vs H Q E, sp vs H Q E → vs.length = ps.length)
    (hbody : ∀ (cdv : Value) (A : Around) (outer : List Env) (s : Shared) (H : Hp) (vs : List V) (Q : VK) (E : XK), A.guards = some [] → Room k (A.deeper (envOfC qual scope s.heap.objs.size f cdv)) → sp vs H Q E →
      ∃ t, PSs (cxOf CX0 P w K mg base N qual scope f cdv A outer s H E) body t ∧ t { nx := fun _ H' => Q .non H', rt := Q } (start N vs) H) : FnG P w K mg base (k + 1) f fd ps sp := by
  obtain ⟨oc, od, dV, kV, doc, pm, an, cdv, ct, osl, rfl, lk, hcd, _, _⟩ := F.ex
  refine ⟨len, fun A outer s H args us vs Q E hG hr e0 hb r hsp => ?_⟩
  have hl := len _ _ _ _ hsp
  have old : ∀ b o, base.get? b = some o → s.heap.get? b = some o := fun b o e => (e0.bs b o e).1
  have KX : K.In s.heap := e0.mod.kin.keeps old
  have names : ∀ y ∈ ps.zip us, scope.names.lookup y.1 = some .local ∨ (scope.names.lookup y.1 = some .cell ∧ ((cellsFrom (s.heap.objs.size + 1) scope.names []).lookup y.1).isSome = true) := by
    intro y hy
    rcases S.par y.1 (List.of_mem_zip (a := y.1) (b := y.2) hy).1 with q | q
    · exact .inl q
    · exact .inr ⟨q, PySem.W.cellsFrom_some _ _ _ (.inl q)⟩
  refine codeAny_call_function hr.depth (KX _ _ lk) rfl S.co S.gen rfl (PySem.W.codeRec_of KX hcd) (hb _ _ _ _ ?_)
  refine wpAny_newFunctionEnv_cells S.kind names fun env he s1 x => ?_
  subst he
  refine ⟨(e0.mod.nolimit.keeps old).keeps x.toInCall.keep, codeAny_func ?_⟩
  obtain ⟨t, ht, hq⟩ := hbody cdv A outer s H vs Q E hG (hr.deeper _) hsp
  have I : Inv (cxOf CX0 P w K mg base N qual scope f cdv A outer s H E) [] (start N vs) H s1 := inv_start S hr.hd e0 hl r x
  refine wpAny_mono (ht.run [] s1 (start N vs) H _ I hq) (fun fl s' hs => ?_) fun e s' hs => hs
  cases fl with
  | ret u =>
    obtain ⟨v, σ', H', J, rv, q⟩ := hs
    exact ⟨v, H', J.os, J.bare, J.base, J.hok, rv, q⟩
  | next =>
    obtain ⟨σ', H', J, q⟩ := hs
    exact ⟨V.non, H', J.os, J.bare, J.base, J.hok, rfl, q⟩
  | brk =>
    obtain ⟨_, _, _, q⟩ := hs
    exact q.elim
  | cont =>
    obtain ⟨_, _, _, q⟩ := hs
    exact q.elim
end

section
variable {X : Cx} {k : Nat} {f : Addr} {fd : FuncData} {ps : List Str} {sp : Sp} {x : Str} {p pos : Pos} {e : Expr} {es : List Expr} {t : TA}
theorem run_fnG {pins : List (Addr × Obj)} {σ : L2.St} {H : Hp} {s : Shared} {Q : VK} {us : List Value} {vs : List V} (F : FnG X.prog X.w X.K X.mg X.base k f fd ps sp) (hG : X.A.guards = some []) (hr : Room k X.A) (hb : Binds X.K fd ps [])
    (I : Inv X pins σ H s) (r : Vals vs us) (h : sp vs H Q E0) : wpAny (model X.prog X.w) X.A (call (.ref f) us) (EP X pins σ Q) X.xe s := by
  have hl : (us ++ []).length = ps.length := by rw [List.append_nil, ← r.length]; exact F.len _ _ _ _ h
  refine wpAny_call (codeAny_mono (F.run X.A X.stack s H ⟨us, []⟩ (us ++ []) vs Q E0 hG hr I.env0 (hb s us I.kIn hl) (by rw [List.append_nil]; exact r) h) fun r s' hq => ?_)
  cases r with
  | error e => exact (show False from hq).elim
  | ok fl =>
    cases fl with
    | ret u => exact I.after hq
    | next => exact False.elim hq
    | brk => exact False.elim hq
    | cont => exact False.elim hq

theorem pe_callG (F : FnG X.prog X.w X.K X.mg X.base k f fd ps sp) (hG : X.A.guards = some []) (hr : Room k X.A) (hg : Gl X x) (hm : X.mg x = some (.ref f)) (hk : PySem.W.keepIn X.K (.ref f) = true) (hb : Binds X.K fd ps [])
    (ha : PA X (e :: es) t) (hdb : (x == ("__debug__" : Str)) = false := by decide) (he : starEach (e :: es) X.env = (false, eval e X.env) :: starEach es X.env := by rfl) (hpl : (backTo pos (starEach es X.env)).any (·.1) = false := by rfl) :
    PE X (.Call (.Name x p) (e :: es) [] pos) (tCall sp [] E0 t) := by
  refine ⟨fun pins s σ H Q I h => ?_⟩
  refine wpAny_Call_Name_kw (ld_glob I hg hm ?_ hdb)
  refine PySem.W.callWith_K (h₀ := X.base) I.ok.mod.kin hk (thn (ha.run pos pins s σ H _ I h) fun us s1 ⟨vs, H1, I1, r, q⟩ => ⟨I1.kIn, ?_⟩) he hpl
  have z : sp (vs ++ []) H1 Q E0 := q
  rw [List.append_nil] at z
  exact run_fnG F hG hr hb I1 r z
end
end Bo
namespace Bo
open PySem PySem.Spec PyProof.Rows L2

/-! ### the law's own end, for a law that asks repr -/
section
variable {P : Program} {w : World} {K : PySem.W.Frag} {mg mb : Str → Option Value} {k : Nat} {fa a : Addr} {fd : FuncData} {x : Str} {sp : Sp} {s₁ : Shared} {vs : List Value} {ns : List Int}

/-- the state ahead of the law, seen from a heap H that tracks at most the script's list at a -/
theorem env_law {H : Hp} (KX : K.In s₁.heap) (hns : s₁.heap.Ns mainGlobals mg) (hb : s₁.heap.Ns builtinsNs mb) (hbb : ∀ x : Str, x ≠ "__name__" → mb x = bootBuiltins x) (hlim : s₁.heap.NoLimit) (hg : s₁.gens = #[])
    (ha : s₁.heap.get? a = some { cls := .type "list", data := .seq vs.toArray }) (hok : HOk P w H s₁.heap) (hA : ∀ b, H b ≠ none → b = a) (hK : H a ≠ none → K.lookup a = none) :
    K.In (hidT s₁.heap H) ∧ (hidT s₁.heap H).Ns mainGlobals mg ∧ Env0 P w K mg (hidT s₁.heap H) callerA [] s₁ H := by
  have off : ∀ {b : Addr} {o : Obj}, s₁.heap.get? b = some o → b ≠ a → (hidT s₁.heap H).get? b = some o := fun {b o} e ne => hidT_get e (by
    cases q : H b with
    | none => rfl
    | some u => exact absurd (hA b (by rw [q]; simp)) ne)
  have dictOff : ∀ {b : Addr} {m : Str → Option Value}, s₁.heap.Ns b m → (hidT s₁.heap H).Ns b m := fun {b m} ⟨o, es, ep, e, d, r⟩ => by
    refine ⟨o, es, ep, off e (fun z => ?_), d, r⟩
    rw [z, ha] at e
    cases e
    exact nomatch (show Data.seq vs.toArray _ = Data.dict es ep from d)
  have hKb : K.In (hidT s₁.heap H) := fun b o e => by
    by_cases hz : H b = none
    · exact hidT_get (KX b o e) hz
    · have eb := hA b hz
      rw [eb] at hz e
      rw [hK hz] at e
      cases e
  have lim : (hidT s₁.heap H).NoLimit := by
    obtain ⟨mc, h1, h2⟩ := hlim
    exact ⟨mc, dictOff h1, h2⟩
  exact ⟨hKb, dictOff hns, ⟨rfl, ⟨hKb, dictOff hns, ⟨mb, dictOff hb, hbb⟩, lim⟩, fun b o e => of_hidT e, Nat.le_of_eq (hidT_size _ _), trivial, fun b hb => by simp [frs] at hb, hok, .of_eq hg⟩⟩

theorem law_from {H : Hp} (KX : K.In s₁.heap) (hns : s₁.heap.Ns mainGlobals mg) (hb : s₁.heap.Ns builtinsNs mb) (hbb : ∀ x : Str, x ≠ "__name__" → mb x = bootBuiltins x) (hlim : s₁.heap.NoLimit) (hg : s₁.gens = #[])
    (ha : s₁.heap.get? a = some { cls := .type "list", data := .seq vs.toArray }) (hr : Room k callerA)
    (F : ∀ base : Heap, K.In base → base.Ns mainGlobals mg → FnG P w K mg base k fa fd [x] sp) (hbind : ∀ (s : Shared) (u : Value), BindsTo s fd ⟨[u], []⟩ [(x, u)])
    (hsp : sp [.ref a] H (fun v _ => v = .bl true) E0) (hok : HOk P w H s₁.heap) (hO : Only H) (hA : ∀ b, H b ≠ none → b = a) (hK : H a ≠ none → K.lookup a = none) :
    codeAny (model P w) callerA (.call (.ref fa) ⟨[.ref a], []⟩) (fun r s' => r = .ok (.ret (.bool true)) ∧ PySem.OldK s₁.heap s'.heap ∧ s'.os = s₁.os ∧ AllBare s'.gens) s₁ := by
  obtain ⟨h1, h2, e0⟩ := env_law (P := P) (w := w) KX hns hb hbb hlim hg ha hok hA hK
  refine codeAny_mono ((F _ h1 h2).run callerA [] s₁ H ⟨[.ref a], []⟩ [.ref a] [.ref a] _ _ rfl hr e0 (hbind s₁ (.ref a)) (.cons rfl .nil) hsp) fun r s' h => ?_
  match r, h with
  | .error _, h => exact (show False from h).elim
  | .ok .next, h => exact (show False from h).elim
  | .ok .brk, h => exact (show False from h).elim
  | .ok .cont, h => exact (show False from h).elim
  | .ok (.ret u), h =>
    obtain ⟨v, H', os, bare, un, hok', r', q⟩ := h
    obtain rfl : v = .bl true := q
    obtain rfl : u = Value.bool true := r'
    refine ⟨rfl, PySem.OldK.of_keep fun b o e => ?_, os, bare⟩
    rcases hO b with z | ⟨ob, xs, z⟩
    · exact un.keep b o e z (by simp [frs]) (by simp)
    · obtain ⟨e1, _⟩ := hok b _ z
      obtain ⟨e2, _⟩ := hok' b _ (un.frzs b ob _ z)
      rw [e] at e1
      cases e1
      exact e2

theorem law_end (KX : K.In s₁.heap) (hns : s₁.heap.Ns mainGlobals mg) (hb : s₁.heap.Ns builtinsNs mb) (hbb : ∀ x : Str, x ≠ "__name__" → mb x = bootBuiltins x) (hlim : s₁.heap.NoLimit) (hg : s₁.gens = #[])
    (ha : s₁.heap.get? a = some { cls := .type "list", data := .seq vs.toArray }) (hi : IntsAre vs ns) (hl : ns.length ≤ sizeLine) (hr : Room k callerA)
    (F : ∀ base : Heap, K.In base → base.Ns mainGlobals mg → FnG P w K mg base k fa fd [x] sp) (hbind : ∀ (s : Shared) (u : Value), BindsTo s fd ⟨[u], []⟩ [(x, u)])
    (hsp : ∀ H : Hp, Only H → SqL K H a (ns.map V.int) → sp [.ref a] H (fun v _ => v = .bl true) E0) :
    codeAny (model P w) callerA (.call (.ref fa) ⟨[.ref a], []⟩) (fun r s' => r = .ok (.ret (.bool true)) ∧ PySem.OldK s₁.heap s'.heap ∧ s'.os = s₁.os ∧ AllBare s'.gens) s₁ := by
  have rv := vals_ints hi
  have lenV := hi.length
  by_cases hk : K.lookup a = none
  · have at_a : ∀ b u, (if b = a then some (HO.frz { cls := .type "list", data := .seq vs.toArray } (.lst (ns.map V.int))) else none) = some u → b = a ∧ u = .frz { cls := .type "list", data := .seq vs.toArray } (.lst (ns.map V.int)) := by
      intro b u z
      by_cases hba : b = a
      · rw [if_pos hba] at z
        exact ⟨hba, (Option.some.inj z).symm⟩
      · rw [if_neg hba] at z
        cases z
    refine law_from (H := fun b => if b = a then some (.frz { cls := .type "list", data := .seq vs.toArray } (.lst (ns.map V.int))) else none) KX hns hb hbb hlim hg ha hr F hbind (hsp _ ?_ ?_) ?_ ?_ ?_ (fun _ => hk)
    · intro b
      by_cases hba : b = a
      · exact .inr ⟨_, _, if_pos hba⟩
      · exact .inl (if_neg hba)
    · exact .inl (.inr ⟨{ cls := .type "list", data := .seq vs.toArray }, if_pos rfl⟩)
    · intro b u z
      obtain ⟨e1, e2⟩ := at_a b u z
      subst e1 e2
      exact ⟨ha, by rw [List.length_map]; exact hl, vs, _, rv, ha⟩
    · intro b
      by_cases hba : b = a
      · exact .inr ⟨_, _, if_pos hba⟩
      · exact .inl (if_neg hba)
    · intro b z
      by_cases hba : b = a
      · exact hba
      · exact absurd (if_neg hba) z
  · obtain ⟨o, ho⟩ := Option.ne_none_iff_exists'.mp hk
    have e := KX a o ho
    rw [ha] at e
    cases e
    refine law_from (H := fun _ => none) KX hns hb hbb hlim hg ha hr F hbind (hsp _ (fun _ => .inl rfl) ?_) (fun b u z => nomatch (show (none : Option HO) = some u from z)) (fun _ => .inl rfl) (fun b z => absurd rfl z) (fun z => absurd rfl z)
    exact .inr ⟨_, vs.toArray, _, ho, rfl, rfl, rfl, by rw [List.size_toArray, lenV]; exact hl, by simpa using rv⟩
end

theorem walk_ofG {l : PySem.W.OpenLaw} {n k : Nat} {q : Program} {loose : List Str} {XP : (Str → Option Value) → Heap → Prop} {YP : World → Heap → Prop} {d : DefRec} {x : Str}
    (hn : l.most = some n) (hn2 : n ≤ sizeLine) (hdf : d.params.defaults = []) (hr : Room k callerA)
    (F : ∀ (w : World) (mg : Str → Option Value) (fa : Addr) (h : Heap), YP w h → h.Ns mainGlobals mg → mg d.name = some (.ref fa) →
      ∃ (K : PySem.W.Frag) (fd : FuncData) (sp : Sp), K.In h ∧ (∀ (s : Shared) (u : Value), BindsTo s fd ⟨[u], []⟩ [(x, u)]) ∧
        (∀ (H : Hp) (a : Addr) (ns : List Int), ns.length ≤ n → Only H → SqL K H a (ns.map V.int) → sp [.ref a] H (fun v _ => v = .bl true) E0) ∧
        ∀ base : Heap, K.In base → base.Ns mainGlobals mg → FnG l.prog w K mg base k fa fd [x] sp) :
    PySem.W.WalkO q loose XP YP l.row.toRowW d [] (fun f vs => PySem.call f vs) := by
  refine Att.attach_call hn hdf fun w s₀ s₁ mg mb fa o pm cd doc a vs ns G Y ho hd hcd hmg hobj hints hlen hg => ?_
  obtain ⟨K, fd, sp, KX, hb, hsp, hF⟩ := F w mg fa _ Y G.T.g hmg
  exact law_end KX G.T.g G.T.b G.T.builtins G.T.nolimit hg hobj hints (Nat.le_trans hlen hn2) hr hF hb fun H hO hS => hsp H a ns hlen hO hS
end Bo
/-! The mathematics: bills, rows, what is paid. No program here. -/
namespace Bo

structure Tm where
  ws : List Int
  ah : Int
  bh : Int
structure Bl where
  own : Int
  ts : List Tm
structure Tm.Ok (t : Tm) : Prop where
  l1 : 1 ≤ t.ws.length
  l6 : t.ws.length ≤ 6
  ws : ∀ w ∈ t.ws, -20 ≤ w ∧ w ≤ 20
  ah : -50 ≤ t.ah ∧ t.ah ≤ 50
  bh : -50 ≤ t.bh ∧ t.bh ≤ 50
structure Bl.Ok (b : Bl) : Prop where
  own : -50 ≤ b.own ∧ b.own ≤ 50
  l2 : b.ts.length ≤ 2
  ts : ∀ t ∈ b.ts, t.Ok
structure RowOk (r : List Int) : Prop where
  l : r.length ≤ 200
  rs : ∀ x ∈ r, 0 ≤ x ∧ x ≤ 1000000

/-- the greatest number of weights, or 1 -/
def wideT : List Tm → Nat
  | [] => 1
  | t :: r => max t.ws.length (wideT r)
def Bl.wide (b : Bl) : Nat := wideT b.ts
theorem wideT_pos : ∀ ts, 1 ≤ wideT ts
  | [] => Nat.le_refl _
  | t :: r => Nat.le_trans (wideT_pos r) (Nat.le_max_right _ _)
theorem wideT_ge : ∀ {ts : List Tm} {t : Tm}, t ∈ ts → t.ws.length ≤ wideT ts
  | a :: r, t, h => by
    rcases List.mem_cons.mp h with e | h
    · rw [e]; exact Nat.le_max_left _ _
    · exact Nat.le_trans (wideT_ge h) (Nat.le_max_right _ _)
theorem wideT_le {n : Nat} (hn : 1 ≤ n) : ∀ {ts : List Tm}, (∀ t ∈ ts, t.ws.length ≤ n) → wideT ts ≤ n
  | [], _ => hn
  | t :: r, h => Nat.max_le.mpr ⟨h t (List.mem_cons_self ..), wideT_le hn fun x hx => h x (List.mem_cons_of_mem _ hx)⟩
theorem wideT_append : ∀ as bs : List Tm, wideT (as ++ bs) = max (wideT as) (wideT bs)
  | [], bs => by
    have := wideT_pos bs
    show wideT bs = max 1 (wideT bs)
    omega
  | a :: r, bs => by
    show max a.ws.length (wideT (r ++ bs)) = max (max a.ws.length (wideT r)) (wideT bs)
    rw [wideT_append r bs]
    omega
theorem Bl.Ok.wide6 {b : Bl} (h : b.Ok) : b.wide ≤ 6 := wideT_le (by decide) fun t ht => (h.ts t ht).l6

/-- the list [1] + [len(rule) ..] and its greatest -/
def lensOf (ts : List Tm) : List Int := 1 :: ts.map fun t => (t.ws.length : Int)
theorem wide_of_max {ts : List Tm} {m : Int} (h1 : m ∈ lensOf ts) (h2 : ∀ y ∈ lensOf ts, y ≤ m) : m = (wideT ts : Int) := by
  have a1 : (wideT ts : Int) ≤ m := by
    have p1 : 1 ≤ m := h2 1 (List.mem_cons_self ..)
    have q : wideT ts ≤ m.toNat := wideT_le (by omega) fun t ht => by
      have := h2 (t.ws.length : Int) (List.mem_cons_of_mem _ (List.mem_map.mpr ⟨t, ht, rfl⟩))
      omega
    omega
  have a2 : m ≤ (wideT ts : Int) := by
    rcases List.mem_cons.mp h1 with e | h
    · have := wideT_pos ts
      omega
    · obtain ⟨t, ht, e⟩ := List.mem_map.mp h
      have := wideT_ge ht
      omega
  omega

/-! ### indexes -/
def srt (ns : List Int) : List Int := ns.mergeSort (fun a b => decide (a ≤ b))
theorem srt_perm (ns : List Int) : (srt ns).Perm ns := List.mergeSort_perm ns _
theorem srt_eq {ns ns' : List Int} (hp : ns'.Perm ns) (ho : ns'.Pairwise (· ≤ ·)) : ns' = srt ns := by
  have h2 : (srt ns).Pairwise (· ≤ ·) := (List.pairwise_mergeSort (le := fun a b : Int => decide (a ≤ b)) (fun a b c h1 h2 => by
    simp only [decide_eq_true_eq] at *
    omega) (fun a b => by
    simp only [Bool.or_eq_true, decide_eq_true_eq]
    omega) ns).imp fun h => of_decide_eq_true h
  exact List.Perm.eq_of_pairwise (fun a b _ _ x y => Int.le_antisymm x y) ho h2 (hp.trans (srt_perm ns).symm)
theorem srt_len (ns : List Int) : (srt ns).length = ns.length := (srt_perm ns).length_eq

def dot : List Int → List Int → Int
  | w :: ws, x :: xs => w * x + dot ws xs
  | _, _ => 0
theorem zip_take_succ {ws xs : List Int} {i : Nat} {w x : Int} (h1 : ws[i]? = some w) (h2 : xs[i]? = some x) :
    (List.zipWith (· * ·) ws xs).take (i + 1) = (List.zipWith (· * ·) ws xs).take i ++ [w * x] := by
  rw [List.take_add_one]
  congr 1
  rw [List.getElem?_zipWith, h1, h2]
  rfl
theorem dot_zip : ∀ ws xs : List Int, (List.zipWith (· * ·) ws xs).sum = dot ws xs
  | [], _ => by
    rw [List.zipWith_nil_left]
    rfl
  | w :: ws, [] => rfl
  | w :: ws, x :: xs => by
    rw [List.zipWith_cons_cons, List.sum_cons, dot_zip ws xs]
    rfl
/-- the index of as many results as there are weights -/
def idx (ws some : List Int) : Int := dot ws (srt some)
/-- the n results ahead of the place e -/
def cut (row : List Int) (n e : Nat) : List Int := (row.drop (e - n)).take n
theorem cut_len {row : List Int} {n e : Nat} (h1 : n ≤ e) (h2 : e ≤ row.length) : (cut row n e).length = n := by
  unfold cut
  rw [List.length_take, List.length_drop]
  omega
theorem cut_mem {row : List Int} {n e : Nat} {x : Int} (h : x ∈ cut row n e) : x ∈ row := List.mem_of_mem_drop (List.mem_of_mem_take h)
def tpay (row : List Int) (s : Nat) (t : Tm) : Int := t.ah * idx t.ws (cut row t.ws.length s) + t.bh * idx t.ws (cut row t.ws.length (s + 1))
def tsum (row : List Int) (s : Nat) (ts : List Tm) : Int := (ts.map (tpay row s)).sum
def payAt (b : Bl) (row : List Int) (s : Nat) : Int := b.own * row.getD s 0 + tsum row s b.ts
def paysFrom (b : Bl) (row : List Int) (lo n : Nat) : List Int := (List.range n).map fun i => payAt b row (lo + i)
def paysOf (b : Bl) (row : List Int) : List Int := paysFrom b row b.wide (row.length - b.wide)
theorem tsum_nil (row : List Int) (s : Nat) : tsum row s [] = 0 := rfl
theorem tsum_append (row : List Int) (s : Nat) (as bs : List Tm) : tsum row s (as ++ bs) = tsum row s as + tsum row s bs := by
  unfold tsum
  rw [List.map_append, List.sum_append]
theorem tsum_take {row : List Int} {s : Nat} {ts : List Tm} {i : Nat} {t : Tm} (h : ts[i]? = some t) : tsum row s (ts.take (i + 1)) = tsum row s (ts.take i) + tpay row s t := by
  have e : ts.take (i + 1) = ts.take i ++ [t] := by
    rw [List.take_add_one, h]
    rfl
  rw [e, tsum_append]
  unfold tsum
  rw [List.map_singleton, List.sum_singleton]
theorem paysFrom_len (b : Bl) (row : List Int) (lo n : Nat) : (paysFrom b row lo n).length = n := by
  unfold paysFrom
  rw [List.length_map, List.length_range]
theorem paysFrom_succ (b : Bl) (row : List Int) (lo n : Nat) : paysFrom b row lo (n + 1) = paysFrom b row lo n ++ [payAt b row (lo + n)] := by
  unfold paysFrom
  rw [List.range_succ, List.map_append, List.map_singleton]
theorem paysFrom_drop (b : Bl) (row : List Int) (lo : Nat) : ∀ k n : Nat, (paysFrom b row lo (k + n)).drop k = paysFrom b row (lo + k) n
  | k, 0 => by
    rw [List.drop_eq_nil_of_le (by rw [paysFrom_len]; exact Nat.le_refl _)]
    rfl
  | k, n + 1 => by
    rw [← Nat.add_assoc, paysFrom_succ, paysFrom_succ, List.drop_append_of_le_length (by rw [paysFrom_len]; omega), paysFrom_drop b row lo k n, Nat.add_assoc]

/-! ### the two bills together -/
def plus (a b : Bl) : Bl := ⟨a.own + b.own, a.ts ++ b.ts⟩
theorem payAt_plus (a b : Bl) (row : List Int) (s : Nat) : payAt (plus a b) row s = payAt a row s + payAt b row s := by
  unfold payAt plus
  show (a.own + b.own) * row.getD s 0 + tsum row s (a.ts ++ b.ts) = _
  rw [tsum_append, Int.add_mul]
  omega
theorem paysFrom_plus (a b : Bl) (row : List Int) (lo : Nat) : ∀ n, (paysFrom (plus a b) row lo n).sum = (paysFrom a row lo n).sum + (paysFrom b row lo n).sum
  | 0 => rfl
  | n + 1 => by
    rw [paysFrom_succ, paysFrom_succ, paysFrom_succ, List.sum_append, List.sum_append, List.sum_append, paysFrom_plus a b row lo n, List.sum_singleton, List.sum_singleton, List.sum_singleton, payAt_plus]
    omega
theorem wide_plus (a b : Bl) : (plus a b).wide = max a.wide b.wide := wideT_append _ _
theorem sum_right {a b : Bl} {row : List Int} {w : Nat} (hw : w = max a.wide b.wide) (hl : w ≤ row.length) :
    (paysOf (plus a b) row).sum = ((paysOf a row).drop (w - a.wide)).sum + ((paysOf b row).drop (w - b.wide)).sum := by
  have cutA : ∀ c : Bl, c.wide ≤ w → (paysOf c row).drop (w - c.wide) = paysFrom c row w (row.length - w) := fun c hc => by
    unfold paysOf
    have e : row.length - c.wide = (w - c.wide) + (row.length - w) := by omega
    rw [e, paysFrom_drop]
    congr 1
    omega
  rw [cutA a (by omega), cutA b (by omega)]
  unfold paysOf
  rw [wide_plus, ← hw, paysFrom_plus]

/-! ### sizes -/
theorem abs_mul_le {a b m n : Nat} {x y : Int} (h1 : x.natAbs ≤ m) (h2 : y.natAbs ≤ n) : (x * y).natAbs ≤ m * n := by
  rw [Int.natAbs_mul]
  exact Nat.mul_le_mul h1 h2
theorem dot_abs {m n : Nat} : ∀ {ws xs : List Int}, (∀ w ∈ ws, w.natAbs ≤ m) → (∀ x ∈ xs, x.natAbs ≤ n) → (dot ws xs).natAbs ≤ ws.length * (m * n)
  | [], _, _, _ => by
    show (0 : Int).natAbs ≤ _
    simp
  | w :: ws, [], _, _ => by
    show (0 : Int).natAbs ≤ _
    simp
  | w :: ws, x :: xs, h1, h2 => by
    have a1 : (w * x).natAbs ≤ m * n := by
      rw [Int.natAbs_mul]
      exact Nat.mul_le_mul (h1 w (List.mem_cons_self ..)) (h2 x (List.mem_cons_self ..))
    have a2 := dot_abs (m := m) (n := n) (ws := ws) (xs := xs) (fun y hy => h1 y (List.mem_cons_of_mem _ hy)) fun y hy => h2 y (List.mem_cons_of_mem _ hy)
    have a3 : (dot (w :: ws) (x :: xs)) = w * x + dot ws xs := rfl
    rw [a3, List.length_cons, Nat.add_mul, Nat.one_mul]
    have := Int.natAbs_add_le (w * x) (dot ws xs)
    omega
theorem idx_abs {t : Tm} {some : List Int} (ht : t.Ok) (hs : ∀ x ∈ some, 0 ≤ x ∧ x ≤ 1000000) : (idx t.ws some).natAbs ≤ 120000000 := by
  have a := dot_abs (m := 20) (n := 1000000) (ws := t.ws) (xs := srt some) (fun w hw => by have := ht.ws w hw; omega) fun x hx => by
    have := hs x ((srt_perm some).mem_iff.mp hx)
    omega
  have b := ht.l6
  unfold idx
  omega
theorem tpay_abs {row : List Int} {s : Nat} {t : Tm} (ht : t.Ok) (hr : ∀ x ∈ row, 0 ≤ x ∧ x ≤ 1000000) : (tpay row s t).natAbs ≤ 12000000000 := by
  have a1 := idx_abs ht (some := cut row t.ws.length s) fun x hx => hr x (cut_mem hx)
  have a2 := idx_abs ht (some := cut row t.ws.length (s + 1)) fun x hx => hr x (cut_mem hx)
  have b1 : (t.ah * idx t.ws (cut row t.ws.length s)).natAbs ≤ 50 * 120000000 := by
    rw [Int.natAbs_mul]
    exact Nat.mul_le_mul (by have := ht.ah; omega) a1
  have b2 : (t.bh * idx t.ws (cut row t.ws.length (s + 1))).natAbs ≤ 50 * 120000000 := by
    rw [Int.natAbs_mul]
    exact Nat.mul_le_mul (by have := ht.bh; omega) a2
  unfold tpay
  omega
theorem tsum_abs {row : List Int} {s : Nat} (hr : ∀ x ∈ row, 0 ≤ x ∧ x ≤ 1000000) : ∀ {ts : List Tm}, (∀ t ∈ ts, t.Ok) → (tsum row s ts).natAbs ≤ ts.length * 12000000000
  | [], _ => by
    rw [tsum_nil]
    simp
  | t :: r, h => by
    have a := tpay_abs (row := row) (s := s) (h t (List.mem_cons_self ..)) hr
    have b := tsum_abs (s := s) hr (ts := r) fun x hx => h x (List.mem_cons_of_mem _ hx)
    have e : tsum row s (t :: r) = tpay row s t + tsum row s r := by
      unfold tsum
      rw [List.map_cons, List.sum_cons]
    rw [e, List.length_cons]
    omega
theorem getD_ok {row : List Int} (hr : ∀ x ∈ row, 0 ≤ x ∧ x ≤ 1000000) (s : Nat) : 0 ≤ row.getD s 0 ∧ row.getD s 0 ≤ 1000000 := by
  rw [List.getD_eq_getElem?_getD]
  cases h : row[s]? with
  | none => exact ⟨by decide, by decide⟩
  | some x => exact hr x (List.mem_of_getElem? h)
theorem payAt_abs {b : Bl} {row : List Int} (hb : b.Ok) (hr : ∀ x ∈ row, 0 ≤ x ∧ x ≤ 1000000) (s : Nat) : (payAt b row s).natAbs ≤ 25000000000 := by
  have a := tsum_abs (s := s) hr hb.ts
  have c := getD_ok hr s
  have d : (b.own * row.getD s 0).natAbs ≤ 50 * 1000000 := by
    rw [Int.natAbs_mul]
    exact Nat.mul_le_mul (by have := hb.own; omega) (by omega)
  have e := hb.l2
  unfold payAt
  omega
theorem sum_abs {m : Nat} : ∀ {xs : List Int}, (∀ x ∈ xs, x.natAbs ≤ m) → xs.sum.natAbs ≤ xs.length * m
  | [], _ => by simp
  | x :: r, h => by
    have a := h x (List.mem_cons_self ..)
    have b := sum_abs (xs := r) fun y hy => h y (List.mem_cons_of_mem _ hy)
    rw [List.sum_cons, List.length_cons, Nat.add_mul, Nat.one_mul]
    omega
theorem paysOf_abs {b : Bl} {row : List Int} (hb : b.Ok) (hr : RowOk row) : ∀ x ∈ paysOf b row, x.natAbs ≤ 25000000000 := by
  intro x hx
  obtain ⟨i, _, e⟩ := List.mem_map.mp hx
  rw [← e]
  exact payAt_abs hb hr.rs _
theorem paysOf_len (b : Bl) (row : List Int) : (paysOf b row).length = row.length - b.wide := paysFrom_len _ _ _ _
end Bo
/-! Bills and rows as data and as objects in a heap. -/
namespace Bo
open PySem PySem.Spec PyProof.Rows L2

/-! ### data that may be shown and compared -/
structure Good (D W : Nat) (d : PyData) : Prop where
  sh : d.showable = true
  nd : d.hasDict = false
  ls : d.leavesShort 1921 = true
  cl : d.canLay0 = true
  dp : d.depth ≤ D
  wt : d.weight ≤ W
structure GoodAll (D W : Nat) (ds : List PyData) : Prop where
  sh : PyData.showableAll ds = true
  nd : PyData.hasDictAll ds = false
  ls : PyData.leavesShortAll 1921 ds = true
  cl : PyData.canLayAll0 ds = true
  dp : PyData.depthAll ds ≤ D
  wt : PyData.weightAll ds ≤ W
theorem good_int {D : Nat} {i : Int} (h : i.natAbs < 2 ^ 60) : Good D 60 (.int i) := by
  have h2 : i.natAbs.log2 < 60 := by
    by_cases h0 : i.natAbs = 0
    · rw [h0]; decide
    · exact (Nat.log2_lt h0).2 h
  have h3 : i.natAbs.log2 < 1920 := by omega
  refine ⟨?_, ?_, ?_, ?_, Nat.zero_le _, ?_⟩
  · simp only [PyData.showable, decide_eq_true_eq]; exact h3
  · simp only [PyData.hasDict]
  · simp only [PyData.leavesShort, decide_eq_true_eq, PyData.shown]
    exact decide_eq_true (PyProof.Rows.int_text_len_1921 h3)
  · simp only [PyData.canLay0]
  · simp only [PyData.weight]
    by_cases h0 : i = 0
    · subst h0; decide
    · rw [if_neg (by simpa using h0)]
      omega
theorem good_nil {D W : Nat} : GoodAll D W [] := ⟨by simp only [PyData.showableAll], by simp only [PyData.hasDictAll], by simp only [PyData.leavesShortAll], by simp only [PyData.canLayAll0], by simp only [PyData.depthAll]; omega, by simp only [PyData.weightAll]; omega⟩
theorem good_cons {D W W' V : Nat} {d : PyData} {ds : List PyData} (h : Good D W d) (hs : GoodAll D W' ds) (hV : W + 1 + W' ≤ V) : GoodAll D V (d :: ds) := by
  obtain ⟨a1, a2, a3, a4, a5, a6⟩ := h
  obtain ⟨b1, b2, b3, b4, b5, b6⟩ := hs
  refine ⟨?_, ?_, ?_, ?_, ?_, ?_⟩
  · simp only [PyData.showableAll, a1, b1, Bool.and_self]
  · simp only [PyData.hasDictAll, a2, b2, Bool.or_self]
  · simp only [PyData.leavesShortAll, a3, b3, Bool.and_self]
  · simp only [PyData.canLayAll0, a4, b4, Bool.and_self]
  · simp only [PyData.depthAll]; omega
  · simp only [PyData.weightAll]; omega
theorem good_tup {D W : Nat} {ds : List PyData} (h : GoodAll D W ds) : Good (D + 1) W (.tuple ds) := by
  obtain ⟨a1, a2, a3, a4, a5, a6⟩ := h
  exact ⟨by simp only [PyData.showable, a1], by simp only [PyData.hasDict, a2], by simp only [PyData.leavesShort, a3], by simp only [PyData.canLay0, a4], by simp only [PyData.depth]; omega, by simp only [PyData.weight]; omega⟩
theorem good_lst {D W : Nat} {ds : List PyData} (h : GoodAll D W ds) : Good (D + 1) W (.list ds) := by
  obtain ⟨a1, a2, a3, a4, a5, a6⟩ := h
  exact ⟨by simp only [PyData.showable, a1], by simp only [PyData.hasDict, a2], by simp only [PyData.leavesShort, a3], by simp only [PyData.canLay0, a4], by simp only [PyData.depth]; omega, by simp only [PyData.weight]; omega⟩
theorem Good.mono {D W D' W' : Nat} {d : PyData} (h : Good D W d) (hD : D ≤ D') (hW : W ≤ W') : Good D' W' d := ⟨h.sh, h.nd, h.ls, h.cl, Nat.le_trans h.dp hD, Nat.le_trans h.wt hW⟩
theorem GoodAll.mono {D W D' W' : Nat} {ds : List PyData} (h : GoodAll D W ds) (hD : D ≤ D') (hW : W ≤ W') : GoodAll D' W' ds := ⟨h.sh, h.nd, h.ls, h.cl, Nat.le_trans h.dp hD, Nat.le_trans h.wt hW⟩
theorem good_ints {D : Nat} : ∀ {ns : List Int} {n : Nat}, (∀ i ∈ ns, i.natAbs < 2 ^ 60) → ns.length ≤ n → GoodAll D (61 * n) (ns.map PyData.int)
  | [], n, _, _ => good_nil
  | i :: r, 0, _, h => by simp at h
  | i :: r, n + 1, h, hl => by
    rw [List.map_cons]
    exact good_cons (good_int (h i (List.mem_cons_self ..))) (good_ints (n := n) (fun j hj => h j (List.mem_cons_of_mem _ hj)) (by rw [List.length_cons] at hl; omega)) (by omega)
theorem Good.fits {D W : Nat} {d : PyData} (h : Good D W d) (hW : W ≤ 8000) : d.shown.length ≤ sizeLine := by
  have a := PyData.shown_le 1921 (by decide) d h.ls
  have b := h.wt
  rw [sizeLine_eq]
  omega
theorem Good.shaped {D W : Nat} {d : PyData} (h : Good D W d) (hD : D ≤ 64) : SeqAt.shaped d = true := by
  have a := h.dp
  unfold SeqAt.shaped
  rw [h.cl, Bool.true_and]
  exact decide_eq_true (by omega)

def termD (t : Tm) : PyData := .tuple [.tuple (t.ws.map PyData.int), .int t.ah, .int t.bh]
def billD (b : Bl) : PyData := .tuple [.int b.own, .tuple (b.ts.map termD)]
def rowD (r : List Int) : PyData := .tuple (r.map PyData.int)
theorem small60 {i : Int} {m : Nat} (h : i.natAbs ≤ m) (hm : m ≤ 1000000000000000) : i.natAbs < 2 ^ 60 := Nat.lt_of_le_of_lt (Nat.le_trans h hm) (by decide)
theorem good_term {t : Tm} (h : t.Ok) : Good 2 600 (termD t) := by
  have a : Good 1 366 (.tuple (t.ws.map PyData.int)) := good_tup (good_ints (n := 6) (fun i hi => small60 (m := 20) (by have := h.ws i hi; omega) (by decide)) h.l6)
  refine good_tup (good_cons a (good_cons (W' := 61) (V := 122) (good_int (small60 (m := 50) (by have := h.ah; omega) (by decide))) (good_cons (W' := 0) (V := 61) (good_int (small60 (m := 50) (by have := h.bh; omega) (by decide))) good_nil (by omega)) (by omega)) (by omega))
theorem good_terms : ∀ {ts : List Tm} {n : Nat}, (∀ t ∈ ts, t.Ok) → ts.length ≤ n → GoodAll 2 (601 * n) (ts.map termD)
  | [], n, _, _ => good_nil
  | t :: r, 0, _, h => by simp at h
  | t :: r, n + 1, h, hl => by
    rw [List.map_cons]
    exact good_cons (good_term (h t (List.mem_cons_self ..))) (good_terms (n := n) (fun j hj => h j (List.mem_cons_of_mem _ hj)) (by rw [List.length_cons] at hl; omega)) (by omega)
theorem good_bill {b : Bl} (h : b.Ok) : Good 4 1300 (billD b) := by
  have a : Good 3 1202 (.tuple (b.ts.map termD)) := good_tup (good_terms (n := 2) h.ts h.l2)
  refine good_tup (good_cons (W' := 1203) (good_int (small60 (m := 50) (by have := h.own; omega) (by decide))) (good_cons (W' := 0) a good_nil (by omega)) (by omega))
theorem good_row {r : List Int} {n : Nat} (h : ∀ x ∈ r, 0 ≤ x ∧ x ≤ 1000000) (hl : r.length ≤ n) : Good 1 (61 * n) (rowD r) :=
  good_tup (good_ints (fun i hi => small60 (m := 1000000) (by have := h i hi; omega) (by decide)) hl)

/-! ### tuples stay -/
def TK (H H' : Hp) : Prop := ∀ a xs, Rd H a (.tup xs) → Rd H' a (.tup xs)
theorem TK.refl (H : Hp) : TK H H := fun _ _ h => h
theorem TK.trans {H1 H2 H3 : Hp} (a : TK H1 H2) (b : TK H2 H3) : TK H1 H3 := fun p xs h => b p xs (a p xs h)
theorem tk_same {H H' : Hp} (s : Same H H') : TK H H' := fun a xs h => by
  rcases h with h | ⟨o, h⟩
  · exact .inl (s _ _ h)
  · exact .inr ⟨o, s _ _ h⟩
theorem same_new {H : Hp} {p : Addr} {o : HO} (h : H p = none) : Same H (upd H p o) := fun b x e => by
  rw [upd_ne (ne_of_none e h)]
  exact e
theorem same_at {H H' : Hp} {p : Addr} {o : HO} (s : Same H H') (n : H p = none) : Same H (upd H' p o) := fun b z e => by
  rw [upd_ne (ne_of_none e n)]
  exact s b z e
theorem tk_new {H : Hp} {p : Addr} {o : HO} (h : H p = none) : TK H (upd H p o) := tk_same (same_new h)
theorem tk_upd {H : Hp} {p : Addr} {u o : HO} (h : H p = some u) (h1 : ∀ xs, u ≠ .tup xs) (h2 : ∀ ob xs, u ≠ .frz ob (.tup xs)) : TK H (upd H p o) := fun a xs r => by
  rcases r with r | ⟨ob, r⟩
  · refine .inl ?_
    rw [upd_ne (fun z => ?_)]
    · exact r
    · rw [z, h] at r
      exact h1 xs (Option.some.inj r)
  · refine .inr ⟨ob, ?_⟩
    rw [upd_ne (fun z => ?_)]
    · exact r
    · rw [z, h] at r
      exact h2 ob xs (Option.some.inj r)
theorem tk_lst {H : Hp} {p : Addr} {ys : List V} {o : HO} (h : H p = some (.lst ys)) : TK H (upd H p o) := tk_upd h (fun _ z => nomatch z) fun _ _ z => nomatch z
theorem tk_dic {H : Hp} {p : Addr} {kvs : List (Key × V)} {o : HO} (h : H p = some (.dK kvs)) : TK H (upd H p o) := tk_upd h (fun _ z => nomatch z) fun _ _ z => nomatch z

section
variable {K : PySem.W.Frag} {H H' : Hp}
theorem TK.tup {a : Addr} {xs : List V} (k : TK H H') (h : SqT K H a xs) : SqT K H' a xs := h.elim (fun r => .inl (k a xs r)) .inr
theorem sqT_new {p : Addr} {xs : List V} : SqT K (upd H p (.tup xs)) p xs := .inl (.inl upd_same)
theorem sqL_new {p : Addr} {xs : List V} : SqL K (upd H p (.lst xs)) p xs := .inl (.inl upd_same)
theorem sqT_of {p : Addr} {xs : List V} (h : H p = some (.tup xs)) : SqT K H p xs := .inl (.inl h)
theorem sqL_of {p : Addr} {xs : List V} (h : H p = some (.lst xs)) : SqL K H p xs := .inl (.inl h)
/-- a tuple of ints -/
def IntsAt (K : PySem.W.Frag) (H : Hp) (v : V) (ns : List Int) : Prop := ∃ a, v = .ref a ∧ SqT K H a (ns.map V.int)
def TermAt (K : PySem.W.Frag) (H : Hp) (v : V) (t : Tm) : Prop := ∃ a r, v = .ref a ∧ SqT K H a [r, .int t.ah, .int t.bh] ∧ IntsAt K H r t.ws
def BillAt (K : PySem.W.Frag) (H : Hp) (v : V) (b : Bl) : Prop := ∃ a t ts, v = .ref a ∧ SqT K H a [.int b.own, .ref t] ∧ SqT K H t ts ∧ Paired (TermAt K H) ts b.ts
theorem IntsAt.keep {v : V} {ns : List Int} (h : IntsAt K H v ns) (k : TK H H') : IntsAt K H' v ns := by
  obtain ⟨a, e, s⟩ := h
  exact ⟨a, e, k.tup s⟩
theorem TermAt.keep {v : V} {t : Tm} (h : TermAt K H v t) (k : TK H H') : TermAt K H' v t := by
  obtain ⟨a, r, e, s, i⟩ := h
  exact ⟨a, r, e, k.tup s, i.keep k⟩
theorem terms_keep {ts : List V} {ls : List Tm} (h : Paired (TermAt K H) ts ls) (k : TK H H') : Paired (TermAt K H') ts ls := Paired.mapP h fun _ _ z => z.keep k
theorem BillAt.keep {v : V} {b : Bl} (h : BillAt K H v b) (k : TK H H') : BillAt K H' v b := by
  obtain ⟨a, t, ts, e, s1, s2, p⟩ := h
  exact ⟨a, t, ts, e, k.tup s1, k.tup s2, terms_keep p k⟩
theorem paired_get {α β : Type} {G : α → β → Prop} : ∀ {xs : List α} {ys : List β} {i : Nat} {x : α}, Paired G xs ys → xs[i]? = some x → ∃ y, ys[i]? = some y ∧ G x y
  | _, _, i, x, .nil, e => by simp at e
  | _, _, 0, x, .cons h _, e => by
    simp at e
    subst e
    exact ⟨_, rfl, h⟩
  | _, _, i + 1, x, .cons _ t, e => by
    obtain ⟨y, h1, h2⟩ := paired_get (i := i) (x := x) t (by simpa using e)
    exact ⟨y, by simpa using h1, h2⟩
theorem paired_append {α β : Type} {G : α → β → Prop} : ∀ {xs xs' : List α} {ys ys' : List β}, Paired G xs ys → Paired G xs' ys' → Paired G (xs ++ xs') (ys ++ ys')
  | _, _, _, _, .nil, h => h
  | _, _, _, _, .cons h t, h' => .cons h (paired_append t h')
theorem dp_ints : ∀ ns : List Int, DpAll K H (ns.map V.int) (ns.map PyData.int)
  | [] => .nil
  | i :: r => .cons (.int i) (dp_ints r)
theorem IntsAt.dp {v : V} {ns : List Int} (h : IntsAt K H v ns) : Dp K H v (.tuple (ns.map PyData.int)) := by
  obtain ⟨a, rfl, s⟩ := h
  exact .tup s (dp_ints ns)
theorem TermAt.dp {v : V} {t : Tm} (h : TermAt K H v t) : Dp K H v (termD t) := by
  obtain ⟨a, r, rfl, s, i⟩ := h
  exact .tup s (.cons i.dp (.cons (.int _) (.cons (.int _) .nil)))
theorem dp_terms : ∀ {ts : List V} {ls : List Tm}, Paired (TermAt K H) ts ls → DpAll K H ts (ls.map termD)
  | _, _, .nil => .nil
  | _, _, .cons h t => .cons h.dp (dp_terms t)
theorem BillAt.dp {v : V} {b : Bl} (h : BillAt K H v b) : Dp K H v (billD b) := by
  obtain ⟨a, t, ts, rfl, s1, s2, p⟩ := h
  exact .tup s1 (.cons (.int _) (.cons (.tup s2 (dp_terms p)) .nil))
end
end Bo
/-! The text's defs by their places in the top, and the head: what the top leaves, told by names. -/
namespace Bo
open PySem PySem.Spec PyProof.Rows L2
/-- the i-th statement of the top -/
def top (i : Nat) : Stmt := PySem.Challenge.pw_bestoflast_k05_whole_bills.main.body.getD i (.Pass ⟨0, 0, 0, 0⟩)
abbrev s_is_whole : Stmt := top 10
abbrev s_first_wrong : Stmt := top 11
abbrev s_is_rule : Stmt := top 12
abbrev s_need_row : Stmt := top 13
abbrev s_index_in : Stmt := top 14
abbrev s_need_long_row : Stmt := top 15
abbrev s_is_term : Stmt := top 19
abbrev s_fault_of : Stmt := top 20
abbrev s_need_bill : Stmt := top 21
abbrev s_width_of : Stmt := top 22
abbrev s_paid_at : Stmt := top 23
abbrev s_pays_in : Stmt := top 24
abbrev s_width : Stmt := top 25
abbrev s_pays : Stmt := top 26
abbrev s_worth : Stmt := top 27
abbrev s_added : Stmt := top 28
abbrev s_law_begun : Stmt := top 30
abbrev s_law_draw : Stmt := top 31
abbrev s_law_of : Stmt := top 32
abbrev s_law_weights : Stmt := top 33
abbrev s_law_drawn_bill : Stmt := top 34
abbrev s_law_drawn_row : Stmt := top 35
abbrev s_law_index : Stmt := top 36
abbrev s_law_wide : Stmt := top 37
abbrev s_law_paid : Stmt := top 38
abbrev s_law_right : Stmt := top 39
abbrev s_law_sum_right : Stmt := top 40
abbrev s_law : Stmt := top 41
abbrev FnP (K : PySem.W.Frag) (x : Str) (st : Stmt) (f : Addr) (fd : FuncData) : Prop := FunD K x x (defArgs st) (defBody st) (defScope st) [] [] f fd
def fnL : List He.DefD := [
  ⟨("is_whole", none), "is_whole", "is_whole", defArgs s_is_whole, defBody s_is_whole, defScope s_is_whole, [], []⟩,
  ⟨("first_wrong", none), "first_wrong", "first_wrong", defArgs s_first_wrong, defBody s_first_wrong, defScope s_first_wrong, [], []⟩,
  ⟨("is_rule", none), "is_rule", "is_rule", defArgs s_is_rule, defBody s_is_rule, defScope s_is_rule, [], []⟩,
  ⟨("need_row", none), "need_row", "need_row", defArgs s_need_row, defBody s_need_row, defScope s_need_row, [], []⟩,
  ⟨("index_in", none), "index_in", "index_in", defArgs s_index_in, defBody s_index_in, defScope s_index_in, [], []⟩,
  ⟨("need_long_row", none), "need_long_row", "need_long_row", defArgs s_need_long_row, defBody s_need_long_row, defScope s_need_long_row, [], []⟩,
  ⟨("is_term", none), "is_term", "is_term", defArgs s_is_term, defBody s_is_term, defScope s_is_term, [], []⟩,
  ⟨("fault_of", none), "fault_of", "fault_of", defArgs s_fault_of, defBody s_fault_of, defScope s_fault_of, [], []⟩,
  ⟨("need_bill", none), "need_bill", "need_bill", defArgs s_need_bill, defBody s_need_bill, defScope s_need_bill, [], []⟩,
  ⟨("width_of", none), "width_of", "width_of", defArgs s_width_of, defBody s_width_of, defScope s_width_of, [], []⟩,
  ⟨("paid_at", none), "paid_at", "paid_at", defArgs s_paid_at, defBody s_paid_at, defScope s_paid_at, [], []⟩,
  ⟨("pays_in", none), "pays_in", "pays_in", defArgs s_pays_in, defBody s_pays_in, defScope s_pays_in, [], []⟩,
  ⟨("width", none), "width", "width", defArgs s_width, defBody s_width, defScope s_width, [], []⟩,
  ⟨("pays", none), "pays", "pays", defArgs s_pays, defBody s_pays, defScope s_pays, [], []⟩,
  ⟨("worth", none), "worth", "worth", defArgs s_worth, defBody s_worth, defScope s_worth, [], []⟩,
  ⟨("added", none), "added", "added", defArgs s_added, defBody s_added, defScope s_added, [], []⟩,
  ⟨("_law_begun", none), "_law_begun", "_law_begun", defArgs s_law_begun, defBody s_law_begun, defScope s_law_begun, [], []⟩,
  ⟨("_law_draw", none), "_law_draw", "_law_draw", defArgs s_law_draw, defBody s_law_draw, defScope s_law_draw, [], []⟩,
  ⟨("_law_of", none), "_law_of", "_law_of", defArgs s_law_of, defBody s_law_of, defScope s_law_of, [], []⟩,
  ⟨("_law_weights", none), "_law_weights", "_law_weights", defArgs s_law_weights, defBody s_law_weights, defScope s_law_weights, [], []⟩,
  ⟨("_law_drawn_bill", none), "_law_drawn_bill", "_law_drawn_bill", defArgs s_law_drawn_bill, defBody s_law_drawn_bill, defScope s_law_drawn_bill, [], []⟩,
  ⟨("_law_drawn_row", none), "_law_drawn_row", "_law_drawn_row", defArgs s_law_drawn_row, defBody s_law_drawn_row, defScope s_law_drawn_row, [], []⟩,
  ⟨("_law_index", none), "_law_index", "_law_index", defArgs s_law_index, defBody s_law_index, defScope s_law_index, [], []⟩,
  ⟨("_law_wide", none), "_law_wide", "_law_wide", defArgs s_law_wide, defBody s_law_wide, defScope s_law_wide, [], []⟩,
  ⟨("_law_paid", none), "_law_paid", "_law_paid", defArgs s_law_paid, defBody s_law_paid, defScope s_law_paid, [], []⟩,
  ⟨("_law_right", none), "_law_right", "_law_right", defArgs s_law_right, defBody s_law_right, defScope s_law_right, [], []⟩,
  ⟨("_law_sum_right", none), "_law_sum_right", "_law_sum_right", defArgs s_law_sum_right, defBody s_law_sum_right, defScope s_law_sum_right, [], []⟩,
  ⟨("law", none), "law", "law", defArgs s_law, defBody s_law, defScope s_law, [], []⟩]
def faL : List He.Fa := [
  .glo "is_whole", .glo "first_wrong", .glo "is_rule", .glo "need_row", .glo "index_in", .glo "need_long_row", .glo "is_term", .glo "fault_of", .glo "need_bill", .glo "width_of", .glo "paid_at", .glo "pays_in", .glo "width", .glo "pays", .glo "worth", .glo "added", .glo "_law_begun", .glo "_law_draw", .glo "_law_of", .glo "_law_weights", .glo "_law_drawn_bill", .glo "_law_drawn_row", .glo "_law_index", .glo "_law_wide", .glo "_law_paid", .glo "_law_right", .glo "_law_sum_right", .glo "law",
  .free "isinstance", .free "int", .free "bool", .free "tuple", .free "enumerate", .free "len", .free "zip", .free "sorted", .free "sum", .free "max", .free "min", .free "range", .free "list", .free "repr",
  .int "MOST_RESULT" 1000000, .int "MOST_RESULTS" 200, .int "MOST_WEIGHTS" 6, .int "MOST_WEIGHT" 20, .int "MOST_OWN" 50, .int "MOST_TERMS" 2]
abbrev R : PySem.W.OpenRow := PySem.W.OpenLaw.row PySem.Challenge.rw_bestoflast_k05_whole_bills
abbrev hk : PySem.W.Hook := He.hookD 4 faL fnL
def ob (s : PySem.W.SharedT) : He.AlD := He.obsDG 4 faL fnL (HandSHeadRun.getT s)
theorem ob_eq (s : PySem.W.SharedT) : ob s = hk.obs s.abs := He.obsDG_eq (HandSHeadRun.getT_eq s)
def looseA : List PySem.Str := ["ResultError", "BadRow", "BadBill", "BadNumber", "MOST_RESULT", "MOST_RESULTS", "MOST_WEIGHTS", "MOST_WEIGHT", "MOST_OWN", "MOST_TERMS", "is_whole", "first_wrong", "is_rule", "need_row", "index_in", "need_long_row", "is_term", "fault_of", "need_bill"]
def looseB : List PySem.Str := ["width_of", "paid_at", "pays_in", "width", "pays", "worth", "added", "_law_begun", "_law_draw", "_law_of", "_law_weights", "_law_drawn_bill", "_law_drawn_row", "_law_index", "_law_wide", "_law_paid", "_law_right", "_law_sum_right"]
abbrev looseL : List PySem.Str := looseA ++ looseB
set_option maxHeartbeats 0 in
theorem run (w : World) : HandSHeadRun.RunEq R (PySem.W.view R.prog [41]) hk ob 3000 looseL w := by
  intro os
  kernel_rfl
end Bo
/-! What the walks lean on: each def and each name of the text, told once. -/
namespace Bo
open PySem PySem.Spec PyProof.Rows L2
/-- a def of the top, by its name -/
def Def (K : PySem.W.Frag) (mg : Str → Option Value) (x : Str) (st : Stmt) : Prop := ∃ f fd, mg x = some (.ref f) ∧ FnP K x st f fd
/-- the text's names, as the top leaves them -/
structure Txt (K : PySem.W.Frag) (mg : Str → Option Value) : Prop where
  b_isinstance : mg "isinstance" = none
  b_int : mg "int" = none
  b_bool : mg "bool" = none
  b_tuple : mg "tuple" = none
  b_enumerate : mg "enumerate" = none
  b_len : mg "len" = none
  b_zip : mg "zip" = none
  b_sorted : mg "sorted" = none
  b_sum : mg "sum" = none
  b_max : mg "max" = none
  b_min : mg "min" = none
  b_range : mg "range" = none
  b_list : mg "list" = none
  b_repr : mg "repr" = none
  c_MOST_RESULT : ∃ t, mg "MOST_RESULT" = some (.int 1000000 t)
  c_MOST_RESULTS : ∃ t, mg "MOST_RESULTS" = some (.int 200 t)
  c_MOST_WEIGHTS : ∃ t, mg "MOST_WEIGHTS" = some (.int 6 t)
  c_MOST_WEIGHT : ∃ t, mg "MOST_WEIGHT" = some (.int 20 t)
  c_MOST_OWN : ∃ t, mg "MOST_OWN" = some (.int 50 t)
  c_MOST_TERMS : ∃ t, mg "MOST_TERMS" = some (.int 2 t)
  d_is_whole : Def K mg "is_whole" s_is_whole
  d_first_wrong : Def K mg "first_wrong" s_first_wrong
  d_is_rule : Def K mg "is_rule" s_is_rule
  d_need_row : Def K mg "need_row" s_need_row
  d_index_in : Def K mg "index_in" s_index_in
  d_need_long_row : Def K mg "need_long_row" s_need_long_row
  d_is_term : Def K mg "is_term" s_is_term
  d_fault_of : Def K mg "fault_of" s_fault_of
  d_need_bill : Def K mg "need_bill" s_need_bill
  d_width_of : Def K mg "width_of" s_width_of
  d_paid_at : Def K mg "paid_at" s_paid_at
  d_pays_in : Def K mg "pays_in" s_pays_in
  d_width : Def K mg "width" s_width
  d_pays : Def K mg "pays" s_pays
  d_worth : Def K mg "worth" s_worth
  d_added : Def K mg "added" s_added
  d_law_begun : Def K mg "_law_begun" s_law_begun
  d_law_draw : Def K mg "_law_draw" s_law_draw
  d_law_of : Def K mg "_law_of" s_law_of
  d_law_weights : Def K mg "_law_weights" s_law_weights
  d_law_drawn_bill : Def K mg "_law_drawn_bill" s_law_drawn_bill
  d_law_drawn_row : Def K mg "_law_drawn_row" s_law_drawn_row
  d_law_index : Def K mg "_law_index" s_law_index
  d_law_wide : Def K mg "_law_wide" s_law_wide
  d_law_paid : Def K mg "_law_paid" s_law_paid
  d_law_right : Def K mg "_law_right" s_law_right
  d_law_sum_right : Def K mg "_law_sum_right" s_law_sum_right
  d_law : Def K mg "law" s_law
/-- a def that keeps a promise, ready to be called by its name -/
def Use (P : Program) (w : World) (K : PySem.W.Frag) (mg : Str → Option Value) (base : Heap) (k : Nat) (x : Str) (ps : List Str) (sp : Sp) : Prop :=
  ∃ f fd, mg x = some (.ref f) ∧ PySem.W.keepIn K (.ref f) = true ∧ Binds K fd ps [] ∧ FnOk P w K mg base CX0 k f fd ps sp
/-- the same where repr is asked -/
def UseG (P : Program) (w : World) (K : PySem.W.Frag) (mg : Str → Option Value) (base : Heap) (k : Nat) (x : Str) (ps : List Str) (sp : Sp) : Prop :=
  ∃ f fd, mg x = some (.ref f) ∧ PySem.W.keepIn K (.ref f) = true ∧ Binds K fd ps [] ∧ FnG P w K mg base k f fd ps sp
section
variable {P : Program} {w : World} {K : PySem.W.Frag} {mg : Str → Option Value} {base : Heap} {x : Str} {st : Stmt}
theorem use_of {N ps : List Str} {k : Nat} {sp : Sp} (D : Def K mg x st) (S : FnScope N ps (defScope st))
    (hb : ∀ (kV doc pm : Value) (an : Option Addr) (cdv ct : Value) (us : List Value), us.length = ps.length → bindArgs (PySem.W.fnOf x x (defArgs st) (defBody st) (defScope st) .none kV doc pm an cdv ct) ⟨us, []⟩ = pure (ps.zip us))
    (len : ∀ vs H Q E, sp vs H Q E → vs.length = ps.length)
    (hbody : ∀ (f : Addr) (cdv : Value) (A : Around) (outer : List Env) (s : Shared) (H : Hp) (vs : List V) (Q : VK) (E : XK), Room k (A.deeper (envOfC x (defScope st) s.heap.objs.size f cdv)) → sp vs H Q E →
      ∃ t, PSs (cxOf CX0 P w K mg base N x (defScope st) f cdv A outer s H E).nox (defBody st) t ∧ t { nx := fun _ H' => Q .non H', rt := Q } (start N vs) H) : Use P w K mg base (k + 1) x ps sp := by
  obtain ⟨f, fd, g, F⟩ := D
  refine ⟨f, fd, g, F.kp, F.bindsN hb, FunD.ok F S len fun cdv A outer s H vs Q E hr h => ?_⟩
  obtain ⟨t, h1, h2⟩ := hbody f cdv A outer s H vs Q E hr h
  exact ⟨t, h1.nox, h2⟩
theorem fnG_by {N ps : List Str} {k : Nat} {sp : Sp} {f : Addr} {fd : FuncData} (F : FnP K x st f fd) (S : FnScope N ps (defScope st)) (len : ∀ vs H Q E, sp vs H Q E → vs.length = ps.length)
    (hbody : ∀ (cdv : Value) (A : Around) (outer : List Env) (s : Shared) (H : Hp) (vs : List V) (Q : VK) (E : XK), A.guards = some [] → Room k (A.deeper (envOfC x (defScope st) s.heap.objs.size f cdv)) → sp vs H Q E →
      ∃ t, PSs (cxOf CX0 P w K mg base N x (defScope st) f cdv A outer s H E).nox (defBody st) t ∧ t { nx := fun _ H' => Q .non H', rt := Q } (start N vs) H) : FnG P w K mg base (k + 1) f fd ps sp :=
  fnG_of F S len fun cdv A outer s H vs Q E hG hr h => by
    obtain ⟨t, h1, h2⟩ := hbody cdv A outer s H vs Q E hG hr h
    exact ⟨t, h1.nox, h2⟩
theorem useG_of {N ps : List Str} {k : Nat} {sp : Sp} (D : Def K mg x st) (S : FnScope N ps (defScope st))
    (hb : ∀ (kV doc pm : Value) (an : Option Addr) (cdv ct : Value) (us : List Value), us.length = ps.length → bindArgs (PySem.W.fnOf x x (defArgs st) (defBody st) (defScope st) .none kV doc pm an cdv ct) ⟨us, []⟩ = pure (ps.zip us))
    (len : ∀ vs H Q E, sp vs H Q E → vs.length = ps.length)
    (hbody : ∀ (f : Addr) (cdv : Value) (A : Around) (outer : List Env) (s : Shared) (H : Hp) (vs : List V) (Q : VK) (E : XK), A.guards = some [] → Room k (A.deeper (envOfC x (defScope st) s.heap.objs.size f cdv)) → sp vs H Q E →
      ∃ t, PSs (cxOf CX0 P w K mg base N x (defScope st) f cdv A outer s H E).nox (defBody st) t ∧ t { nx := fun _ H' => Q .non H', rt := Q } (start N vs) H) : UseG P w K mg base (k + 1) x ps sp := by
  obtain ⟨f, fd, g, F⟩ := D
  exact ⟨f, fd, g, F.kp, F.bindsN hb, fnG_by F S len (hbody f)⟩
end
section
variable {X : Cx} {k j : Nat} {ps : List Str} {sp : Sp} {x : Str} {p pos : Pos} {e : Expr} {es : List Expr} {t : TA}
/-- f(e, ..), f a def of the text -/
theorem pe_use (U : Use X.prog X.w X.K X.mg X.base k x ps sp) (hr : Room j X.A) (ha : PA X (e :: es) t) (hkj : k ≤ j := by decide) (hg : Gl X x := by rfl) (hdb : (x == ("__debug__" : Str)) = false := by decide)
    (he : starEach (e :: es) X.env = (false, eval e X.env) :: starEach es X.env := by rfl) (hpl : (backTo pos (starEach es X.env)).any (·.1) = false := by rfl) :
    PE X (.Call (.Name x p) (e :: es) [] pos) (tCall sp [] E0 t) := by
  obtain ⟨f, fd, g, kp, b, F⟩ := U
  exact pe_call F (hr.mono hkj) hg g kp b .nil pass0 ha hdb he hpl
theorem pe_useG (U : UseG X.prog X.w X.K X.mg X.base k x ps sp) (hG : X.A.guards = some []) (hr : Room j X.A) (ha : PA X (e :: es) t) (hkj : k ≤ j := by decide) (hg : Gl X x := by rfl) (hdb : (x == ("__debug__" : Str)) = false := by decide)
    (he : starEach (e :: es) X.env = (false, eval e X.env) :: starEach es X.env := by rfl) (hpl : (backTo pos (starEach es X.env)).any (·.1) = false := by rfl) :
    PE X (.Call (.Name x p) (e :: es) [] pos) (tCall sp [] E0 t) := by
  obtain ⟨f, fd, g, kp, b, F⟩ := U
  exact pe_callG F hG (hr.mono hkj) hg g kp b ha hdb he hpl
/-- an int constant of the module -/
theorem pe_num {i : Int} (hm : ∃ t, X.mg x = some (.int i t)) (hg : Gl X x := by rfl) (hd : (x == ("__debug__" : Str)) = false := by decide) : PE X (.Name x pos) (tC (.int i)) := by
  obtain ⟨t, h⟩ := hm
  exact pe_glob hg h ⟨t, rfl⟩ hd
/-- isinstance(e, T), T a built-in class by its name -/
theorem pe_isT {T : String} {q : Pos} {y : Str} {te : TE} (hm : X.mg "isinstance" = none) (hT : X.mg y = none) (hv : bootBuiltins y = some (.type T)) (ha : PE X e te) (hg : Gl X "isinstance" := by rfl) (hg2 : Gl X y := by rfl) (hn : y ≠ "__name__" := by decide) (hd : (y == ("__debug__" : Str)) = false := by decide)
    (he : starEach [e, .Name y q] X.env = (false, eval e X.env) :: starEach [.Name y q] X.env := by rfl) :
    PE X (.Call (.Name "isinstance" p) [e, .Name y q] [] pos) (tCB (rIsi X.K) (tCons te (tCons (tC (.ty T)) tNil))) :=
  pe_callB call_isi hg hm (by decide +kernel) (pa_cons ha (pa_cons (pe_bltn hg2 hT hv rfl hn hd) pa_nil) he) (he := he)
/-- len(e) of a list or a tuple -/
def sizeOf (K : PySem.W.Frag) (args : List V) (H : Hp) (Q : VK) : Prop :=
  ∃ (c : Addr) (items : List V), args = [.ref c] ∧ (SqL K H c items ∨ SqT K H c items) ∧ Q (.int items.length) H
theorem pe_lenK (K : PySem.W.Frag) {te : TE} (hm : X.mg "len" = none) (ha : PE X e te) (hK : X.K = K := by rfl) (hg : Gl X "len" := by rfl) (he : starEach [e] X.env = (false, eval e X.env) :: starEach [] X.env := by rfl) :
    PE X (.Call (.Name "len" p) [e] [] pos) (tCB (sizeOf K) (tCons te tNil)) := by
  subst hK
  exact pe_callB (r := sizeOf X.K) call_len_seq hg hm PySem.boot_len (pa_cons ha pa_nil he) (he := he)
theorem pe_len {te : TE} (hm : X.mg "len" = none) (ha : PE X e te) (hg : Gl X "len" := by rfl) (he : starEach [e] X.env = (false, eval e X.env) :: starEach [] X.env := by rfl) :
    PE X (.Call (.Name "len" p) [e] [] pos) (tCB (sizeOf X.K) (tCons te tNil)) := pe_lenK X.K hm ha rfl hg he
end
end Bo
namespace Bo
open PySem PySem.Spec PyProof.Rows L2
section
variable {P : Program} {w : World} {K : PySem.W.Frag} {mg : Str → Option Value} {base : Heap}

/-! ### is_whole -/
theorem sc_is_whole : FnScope ["thing", "least", "most"] ["thing", "least", "most"] (defScope s_is_whole) := ⟨rfl, rfl, rfl, by decide +kernel, rfl, by decide +kernel, by decide +kernel⟩
def sp_is_whole : Sp := fun vs H Q _ => ∃ i lo hi : Int, vs = [.int i, .int lo, .int hi] ∧ lo ≤ i ∧ i ≤ hi ∧ Q (.bl true) H
theorem u_is_whole (T : Txt K mg) : Use P w K mg base 1 "is_whole" ["thing", "least", "most"] sp_is_whole := by
  refine use_of T.d_is_whole sc_is_whole (fun _ _ _ _ _ _ us hl => match us, hl with | [_, _, _], _ => rfl) (fun vs H Q E h => ?_) fun f cdv A outer s H vs Q E hr h => ?_
  · obtain ⟨i, lo, hi, rfl, _⟩ := h
    rfl
  · obtain ⟨i, lo, hi, rfl, h1, h2, q⟩ := h
    refine ⟨_, pss_one (ps_ret (pe_and (pe_isT (T := "int") T.b_isinstance T.b_int (by decide +kernel) (pv 0)) (pe_and (pe_not (pe_isT (T := "bool") T.b_isinstance T.b_bool (by decide +kernel) (pv 0))) (pe_one (pe_chain op_le op_le (pv 1) (pv 0) (pv 2)))))), ?_⟩
    refine ⟨.int i, rfl, .int i, .ty "int", _, _, true, rfl, .ty "int", .base (.int i), kit_ty (by decide +kernel), true, rfl, iteT ?_⟩
    refine ⟨.int i, rfl, .int i, .ty "bool", _, _, false, rfl, .ty "bool", .base (.int i), kit_ty (by decide +kernel), false, rfl, true, rfl, iteT ?_⟩
    refine ⟨.int lo, rfl, .int i, rfl, lo, i, rfl, rfl, _, rfl, ?_⟩
    rw [decide_eq_true h1]
    refine iteT ⟨.int hi, rfl, i, hi, rfl, rfl, ?_⟩
    show Q (.bl (decide (i ≤ hi))) H
    rw [decide_eq_true h2]
    exact q

/-! ### first_wrong -/
theorem int_at {ns : List Int} {i : Nat} {x : V} (h : (ns.map V.int)[i]? = some x) : ∃ n, ns[i]? = some n ∧ x = .int n := by
  rw [List.getElem?_map] at h
  obtain ⟨n, hn, e⟩ := Option.map_eq_some_iff.mp h
  exact ⟨n, hn, e.symm⟩
theorem sc_first_wrong : FnScope ["thing", "least", "most", "number", "one"] ["thing", "least", "most"] (defScope s_first_wrong) := ⟨rfl, rfl, rfl, by decide +kernel, rfl, by decide +kernel, by decide +kernel⟩
def sp_first_wrong (K : PySem.W.Frag) : Sp := fun vs H Q _ => ∃ (v : V) (ns : List Int) (lo hi : Int), vs = [v, .int lo, .int hi] ∧ IntsAt K H v ns ∧ (∀ i ∈ ns, lo ≤ i ∧ i ≤ hi) ∧ ∀ H', Same H H' → Q .non H'
theorem u_first_wrong (T : Txt K mg) : Use P w K mg base 2 "first_wrong" ["thing", "least", "most"] (sp_first_wrong K) := by
  have U1 : Use P w K mg base 1 "is_whole" ["thing", "least", "most"] sp_is_whole := u_is_whole T
  refine use_of T.d_first_wrong sc_first_wrong (fun _ _ _ _ _ _ us hl => match us, hl with | [_, _, _], _ => rfl) (fun vs H Q E h => ?_) fun f cdv A outer s H vs Q E hr h => ?_
  · obtain ⟨v, ns, lo, hi, rfl, _⟩ := h
    rfl
  · obtain ⟨v, ns, lo, hi, rfl, ⟨a, rfl, hS⟩, hb, q⟩ := h
    refine ⟨_, pss_cons (ps_for PassesOwn.never rfl (pi_enumT (by rfl) T.b_enumerate (pa_cons (pv 0) pa_nil)) (pg_tup rfl (pgs_cons (pg_name (i := 3) sc_first_wrong.nd rfl (.inl rfl)) (pgs_cons (pg_name (i := 4) sc_first_wrong.nd rfl (.inl rfl)) pgs_nil)))
        (pss_one (ps_if (pt_not (pt_val (pe_use U1 hr (pa_cons (pv 4) (pa_cons (pv 1) (pa_cons (pv 2) pa_nil)))))) (pss_one (ps_ret (pv 3))) pss_nil)))
      (pss_one (ps_ret pe_non)), ?_⟩
    refine ⟨.ref a, rfl, a, ns.map V.int, rfl, hS, for_it (walk_enumT (xs := ns.map V.int)) (fun i σ H' => ∃ y3 y4, σ = [some (.ref a), some (.int lo), some (.int hi), y3, y4] ∧ Same H H') ⟨none, none, rfl, Same.refl H⟩ (fun i σ H' _ h => ?_) (fun i x σ H1 H2 hlt h hy => ?_) (fun σ H' h => ?_)⟩
    · obtain ⟨_, _, _, sm⟩ := h
      exact (tk_same sm).tup hS
    · obtain ⟨y3, y4, rfl, sm⟩ := h
      obtain ⟨p, x1, x2, rfl, np, rfl, f1, f2⟩ := hy
      cases f1
      obtain ⟨n, hn, rfl⟩ := int_at f2
      have hb' := hb n (List.mem_of_getElem? hn)
      refine ⟨p, [.int (i : Nat), .int n], rfl, sqT_new, rfl, .int (i : Nat), [.int n], rfl, .int n, [], rfl, rfl, ?_⟩
      refine ⟨.int n, rfl, .int lo, rfl, .int hi, rfl, n, lo, hi, rfl, hb'.1, hb'.2, true, rfl, iteF ?_⟩
      exact ⟨_, _, rfl, sm.trans (same_new np)⟩
    · obtain ⟨y3, y4, rfl, sm⟩ := h
      exact q H' sm

/-! ### is_rule -/
theorem sc_is_rule : FnScope ["thing"] ["thing"] (defScope s_is_rule) := ⟨rfl, rfl, rfl, by decide +kernel, rfl, by decide +kernel, by decide +kernel⟩
def sp_is_rule (K : PySem.W.Frag) : Sp := fun vs H Q _ => ∃ (v : V) (ns : List Int), vs = [v] ∧ IntsAt K H v ns ∧ (1 ≤ ns.length ∧ ns.length ≤ 6) ∧ (∀ i ∈ ns, -20 ≤ i ∧ i ≤ 20) ∧ ∀ H', Same H H' → Q (.bl true) H'
/-- what isinstance asks of a tuple -/
theorem tyT {H : Hp} {a : Addr} {xs : List V} (h : SqT K H a xs) : TyX K H (.ref a) (.type "tuple") := by
  rcases h with (h | ⟨o, h⟩) | ⟨o, its, n, h1, h2, _⟩
  · exact .base (.tup h)
  · exact .fTuple h
  · exact .kTuple h1 h2
theorem u_is_rule (T : Txt K mg) : Use P w K mg base 3 "is_rule" ["thing"] (sp_is_rule K) := by
  have U1 : Use P w K mg base 2 "first_wrong" ["thing", "least", "most"] (sp_first_wrong K) := u_first_wrong T
  refine use_of T.d_is_rule sc_is_rule (fun _ _ _ _ _ _ us hl => match us, hl with | [_], _ => rfl) (fun vs H Q E h => ?_) fun f cdv A outer s H vs Q E hr h => ?_
  · obtain ⟨v, ns, rfl, _⟩ := h
    rfl
  · obtain ⟨v, ns, rfl, ⟨a, rfl, hS⟩, ⟨hl1, hl6⟩, hb, q⟩ := h
    refine ⟨_, pss_cons (ps_if (PW.pt (pw_or (pt_not (pt_val (pe_isT (T := "tuple") T.b_isinstance T.b_tuple (by decide +kernel) (pv 0)))) (pw_or1 (pt_not (pt_chain op_le op_le pe_int (pe_len T.b_len (pv 0)) (pe_num T.c_MOST_WEIGHTS)))))) pss_never pss_nil)
      (pss_one (ps_ret (pe_cmpR op_isN (pe_use U1 hr (pa_cons (pv 0) (pa_cons (pe_op op_sub pe_int (pe_num T.c_MOST_WEIGHT)) (pa_cons (pe_num T.c_MOST_WEIGHT) pa_nil)))) pe_non (nomark _)))), ?_⟩
    refine ⟨.ref a, rfl, .ref a, .ty "tuple", _, _, true, rfl, .ty "tuple", tyT hS, kit_ty (by decide +kernel), true, rfl, iteF ?_⟩
    refine ⟨.ref a, rfl, a, _, rfl, .inr hS, 1, _, rfl, rfl, _, rfl, ?_⟩
    rw [List.length_map, decide_eq_true (show (1 : Int) ≤ (ns.length : Int) by omega)]
    refine iteT ⟨_, 6, rfl, rfl, _, rfl, ?_⟩
    rw [decide_eq_true (show (ns.length : Int) ≤ 6 by omega)]
    refine iteF ?_
    refine ⟨.ref a, rfl, 0, 20, rfl, rfl, .ref a, ns, -20, 20, rfl, ⟨a, rfl, hS⟩, hb, fun H' sm => ?_⟩
    exact ⟨rfl, q H' sm⟩
end
end Bo
namespace Bo
open PySem PySem.Spec PyProof.Rows L2
section
variable {P : Program} {w : World} {K : PySem.W.Frag} {mg : Str → Option Value} {base : Heap}

/-! ### need_row -/
theorem sc_need_row : FnScope ["thing", "number"] ["thing"] (defScope s_need_row) := ⟨rfl, rfl, rfl, by decide +kernel, rfl, by decide +kernel, by decide +kernel⟩
def sp_need_row (K : PySem.W.Frag) : Sp := fun vs H Q _ => ∃ (v : V) (ns : List Int), vs = [v] ∧ IntsAt K H v ns ∧ RowOk ns ∧ ∀ H', Same H H' → Q v H'
theorem u_need_row (T : Txt K mg) : Use P w K mg base 3 "need_row" ["thing"] (sp_need_row K) := by
  have U1 : Use P w K mg base 2 "first_wrong" ["thing", "least", "most"] (sp_first_wrong K) := u_first_wrong T
  refine use_of T.d_need_row sc_need_row (fun _ _ _ _ _ _ us hl => match us, hl with | [_], _ => rfl) (fun vs H Q E h => ?_) fun f cdv A outer s H vs Q E hr h => ?_
  · obtain ⟨v, ns, rfl, _⟩ := h
    rfl
  · obtain ⟨v, ns, rfl, ⟨a, rfl, hS⟩, ho, q⟩ := h
    refine ⟨_, pss_cons (ps_if (PW.pt (pw_or (pt_not (pt_val (pe_isT (T := "tuple") T.b_isinstance T.b_tuple (by decide +kernel) (pv 0)))) (pw_or1 (pt_cmpR op_gt (pe_len T.b_len (pv 0)) (pe_num T.c_MOST_RESULTS) (nomark _))))) pss_never pss_nil)
      (pss_cons (ps_set (i := 1) sc_need_row.nd rfl (.inl rfl) (pe_use U1 hr (pa_cons (pv 0) (pa_cons pe_int (pa_cons (pe_num T.c_MOST_RESULT) pa_nil)))))
      (pss_cons (ps_if (pt_cmpR op_notN (pv 1) pe_non (nomark _)) pss_never pss_nil)
      (pss_one (ps_ret (pv 0))))), ?_⟩
    refine ⟨.ref a, rfl, .ref a, .ty "tuple", _, _, true, rfl, .ty "tuple", tyT hS, kit_ty (by decide +kernel), true, rfl, iteF ?_⟩
    refine ⟨.ref a, rfl, a, _, rfl, .inr hS, _, 200, rfl, rfl, _, rfl, ?_⟩
    have hl := ho.l
    rw [List.length_map, decide_eq_false (show ¬ (200 : Int) < (ns.length : Int) by omega)]
    refine iteF ?_
    refine ⟨.ref a, rfl, .ref a, ns, 0, 1000000, rfl, ⟨a, rfl, hS⟩, ho.rs, fun H1 sm => ?_⟩
    refine ⟨.non, rfl, rfl, _, rfl, iteF ?_⟩
    exact ⟨.ref a, rfl, q H1 sm⟩

/-! ### need_long_row -/
theorem sc_need_long_row : FnScope ["row", "least"] ["row", "least"] (defScope s_need_long_row) := ⟨rfl, rfl, rfl, by decide +kernel, rfl, by decide +kernel, by decide +kernel⟩
def sp_need_long_row (K : PySem.W.Frag) : Sp := fun vs H Q _ => ∃ (v : V) (ns : List Int) (n : Nat), vs = [v, .int n] ∧ IntsAt K H v ns ∧ RowOk ns ∧ n ≤ ns.length ∧ ∀ H', Same H H' → Q v H'
theorem u_need_long_row (T : Txt K mg) : Use P w K mg base 4 "need_long_row" ["row", "least"] (sp_need_long_row K) := by
  have U1 : Use P w K mg base 3 "need_row" ["thing"] (sp_need_row K) := u_need_row T
  refine use_of T.d_need_long_row sc_need_long_row (fun _ _ _ _ _ _ us hl => match us, hl with | [_, _], _ => rfl) (fun vs H Q E h => ?_) fun f cdv A outer s H vs Q E hr h => ?_
  · obtain ⟨v, ns, n, rfl, _⟩ := h
    rfl
  · obtain ⟨v, ns, n, rfl, ⟨a, rfl, hS⟩, ho, hn, q⟩ := h
    refine ⟨_, pss_cons (ps_if (pt_cmpR op_lt (pe_len T.b_len (pe_use U1 hr (pa_cons (pv 0) pa_nil))) (pv 1) (nomark _)) pss_never pss_nil) (pss_one (ps_ret (pv 0))), ?_⟩
    refine ⟨.ref a, rfl, .ref a, ns, rfl, ⟨a, rfl, hS⟩, ho, fun H1 sm => ?_⟩
    refine ⟨a, _, rfl, .inr ((tk_same sm).tup hS), .int n, rfl, _, _, rfl, rfl, _, rfl, ?_⟩
    rw [List.length_map, decide_eq_false (show ¬ (ns.length : Int) < (n : Int) by omega)]
    refine iteF ?_
    exact ⟨.ref a, rfl, q H1 sm⟩

/-! ### is_term -/
theorem sc_is_term : FnScope ["thing"] ["thing"] (defScope s_is_term) := ⟨rfl, rfl, rfl, by decide +kernel, rfl, by decide +kernel, by decide +kernel⟩
def sp_is_term (K : PySem.W.Frag) : Sp := fun vs H Q _ => ∃ (v : V) (t : Tm), vs = [v] ∧ TermAt K H v t ∧ t.Ok ∧ ∀ H', Same H H' → Q (.bl true) H'
theorem u_is_term (T : Txt K mg) : Use P w K mg base 4 "is_term" ["thing"] (sp_is_term K) := by
  have U1 : Use P w K mg base 3 "is_rule" ["thing"] (sp_is_rule K) := u_is_rule T
  have U2 : Use P w K mg base 1 "is_whole" ["thing", "least", "most"] sp_is_whole := u_is_whole T
  refine use_of T.d_is_term sc_is_term (fun _ _ _ _ _ _ us hl => match us, hl with | [_], _ => rfl) (fun vs H Q E h => ?_) fun f cdv A outer s H vs Q E hr h => ?_
  · obtain ⟨v, t, rfl, _⟩ := h
    rfl
  · obtain ⟨v, t, rfl, ⟨a, r, rfl, hS, hR⟩, ho, q⟩ := h
    refine ⟨_, pss_cons (ps_if (PW.pt (pw_or (pt_not (pt_val (pe_isT (T := "tuple") T.b_isinstance T.b_tuple (by decide +kernel) (pv 0)))) (pw_or (pt_cmpR op_ne (pe_len T.b_len (pv 0)) pe_int (nomark _))
        (pw_or1 (pt_not (pt_val (pe_use U1 hr (pa_cons (pe_ix ix_tup (pv 0) pe_int (fun _ _ => rfl)) pa_nil)))))))) pss_never pss_nil)
      (pss_one (ps_ret (pe_and (pe_use U2 hr (pa_cons (pe_ix ix_tup (pv 0) pe_int (fun _ _ => rfl)) (pa_cons (pe_op op_sub pe_int (pe_num T.c_MOST_OWN)) (pa_cons (pe_num T.c_MOST_OWN) pa_nil))))
        (pe_one (pe_use U2 hr (pa_cons (pe_ix ix_tup (pv 0) pe_int (fun _ _ => rfl)) (pa_cons (pe_op op_sub pe_int (pe_num T.c_MOST_OWN)) (pa_cons (pe_num T.c_MOST_OWN) pa_nil)))))))), ?_⟩
    refine ⟨.ref a, rfl, .ref a, .ty "tuple", _, _, true, rfl, .ty "tuple", tyT hS, kit_ty (by decide +kernel), true, rfl, iteF ?_⟩
    refine ⟨.ref a, rfl, a, _, rfl, .inr hS, rfl, _, rfl, iteNS rfl ?_⟩
    refine ⟨.ref a, rfl, a, _, 0, r, rfl, rfl, hS, atI_nat (j := 0) rfl, r, t.ws, rfl, hR, ⟨ho.l1, ho.l6⟩, ho.ws, fun H1 sm => ⟨true, rfl, iteF ?_⟩⟩
    have hS1 := (tk_same sm).tup hS
    refine ⟨.ref a, rfl, a, _, 1, .int t.ah, rfl, rfl, hS1, atI_nat (j := 1) rfl, 0, 50, rfl, rfl, t.ah, -50, 50, rfl, ho.ah.1, ho.ah.2, true, rfl, iteT ?_⟩
    refine ⟨.ref a, rfl, a, _, 2, .int t.bh, rfl, rfl, hS1, atI_nat (j := 2) rfl, 0, 50, rfl, rfl, t.bh, -50, 50, rfl, ho.bh.1, ho.bh.2, q H1 sm⟩

/-! ### fault_of -/
abbrev gTwo (K : PySem.W.Frag) (i j : Nat) : TG := gTup K 2 (gCons (gName i) (gCons (gName j) gNil))
abbrev gThree (K : PySem.W.Frag) (i j l : Nat) : TG := gTup K 3 (gCons (gName i) (gCons (gName j) (gCons (gName l) gNil)))
theorem sc_fault_of : FnScope ["thing", "number", "term"] ["thing"] (defScope s_fault_of) := ⟨rfl, rfl, rfl, by decide +kernel, rfl, by decide +kernel, by decide +kernel⟩
def sp_fault_of (K : PySem.W.Frag) : Sp := fun vs H Q _ => ∃ (v : V) (b : Bl), vs = [v] ∧ BillAt K H v b ∧ b.Ok ∧ ∀ H' p, Same H H' → H p = none → H' p = some (.lst []) → Q (.ref p) H'
theorem u_fault_of (T : Txt K mg) : Use P w K mg base 5 "fault_of" ["thing"] (sp_fault_of K) := by
  have U1 : Use P w K mg base 4 "is_term" ["thing"] (sp_is_term K) := u_is_term T
  have U2 : Use P w K mg base 1 "is_whole" ["thing", "least", "most"] sp_is_whole := u_is_whole T
  refine use_of T.d_fault_of sc_fault_of (fun _ _ _ _ _ _ us hl => match us, hl with | [_], _ => rfl) (fun vs H Q E h => ?_) fun f cdv A outer s H vs Q E hr h => ?_
  · obtain ⟨v, b, rfl, _⟩ := h
    rfl
  · obtain ⟨v, b, rfl, ⟨a, t, ts, rfl, hS, hT, hP⟩, ho, q⟩ := h
    refine ⟨_, pss_cons (ps_if (PW.pt (pw_or (pt_not (pt_val (pe_isT (T := "tuple") T.b_isinstance T.b_tuple (by decide +kernel) (pv 0)))) (pw_or1 (pt_cmpR op_ne (pe_len T.b_len (pv 0)) pe_int (nomark _))))) pss_never pss_nil)
      (pss_cons (ps_if (pt_not (pt_val (pe_use U2 hr (pa_cons (pe_ix ix_tup (pv 0) pe_int (fun _ _ => rfl)) (pa_cons (pe_op op_sub pe_int (pe_num T.c_MOST_OWN)) (pa_cons (pe_num T.c_MOST_OWN) pa_nil)))))) pss_never pss_nil)
      (pss_cons (ps_if (PW.pt (pw_or (pt_not (pt_val (pe_isT (T := "tuple") T.b_isinstance T.b_tuple (by decide +kernel) (pe_ix ix_tup (pv 0) pe_int (fun _ _ => rfl))))) (pw_or1 (pt_cmpR op_gt (pe_len T.b_len (pe_ix ix_tup (pv 0) pe_int (fun _ _ => rfl))) (pe_num T.c_MOST_TERMS) (nomark _))))) pss_never pss_nil)
      (pss_one (ps_ret (pe_slice sl_list (pe_lc (own := [("number", 1), ("term", 2)]) (g := gTwo K 1 2) rfl sc_fault_of.nd (pi_enumT (by rfl) T.b_enumerate (pa_cons (pe_ix ix_tup (pv 0) pe_int (fun _ _ => rfl)) pa_nil))
          (blkOk_by (own := [("number", 1), ("term", 2)]) (N := ["thing", "number", "term"]) (sc := defScope s_fault_of) (by decide +kernel))
          (fun _ _ _ _ _ => pg_tup rfl (pgs_cons (pg_name (i := 1) sc_fault_of.nd rfl (.inl rfl)) (pgs_cons (pg_name (i := 2) sc_fault_of.nd rfl (.inl rfl)) pgs_nil)))
          (fun _ _ _ _ _ => pts_one (pt_not (pt_val (pe_use U1 hr (pa_cons (pv 2) pa_nil))))) (fun _ _ _ _ _ => pv 1)) po_none (po_some pe_int)))))), ?_⟩
    refine ⟨.ref a, rfl, .ref a, .ty "tuple", _, _, true, rfl, .ty "tuple", tyT hS, kit_ty (by decide +kernel), true, rfl, iteF ?_⟩
    refine ⟨.ref a, rfl, a, _, rfl, .inr hS, rfl, _, rfl, iteNS rfl ?_⟩
    refine ⟨.ref a, rfl, a, _, 0, .int b.own, rfl, rfl, hS, atI_nat (j := 0) rfl, 0, 50, rfl, rfl, b.own, -50, 50, rfl, ho.own.1, ho.own.2, true, rfl, iteF ?_⟩
    refine ⟨.ref a, rfl, a, _, 1, .ref t, rfl, rfl, hS, atI_nat (j := 1) rfl, .ref t, .ty "tuple", _, _, true, rfl, .ty "tuple", tyT hT, kit_ty (by decide +kernel), true, rfl, iteF ?_⟩
    refine ⟨.ref a, rfl, a, _, 1, .ref t, rfl, rfl, hS, atI_nat (j := 1) rfl, t, ts, rfl, .inr hT, _, 2, rfl, rfl, _, rfl, ?_⟩
    have hl := ho.l2
    rw [← hP.length] at hl
    rw [decide_eq_false (show ¬ (2 : Int) < (ts.length : Int) by omega)]
    refine iteF ?_
    refine ⟨.ref a, rfl, a, _, 1, .ref t, rfl, rfl, hS, atI_nat (j := 1) rfl, t, ts, rfl, hT, fun D nD => ?_⟩
    refine lc_it (walk_enumT (xs := ts)) (fun i H' => Same H H' ∧ H' D = some (.lst [])) ⟨same_new nD, upd_same⟩ (fun i H' _ h => (tk_same h.1).tup hT) (fun i x H1 H2 hlt h hy => ?_) (fun H' h => ?_)
    · obtain ⟨sm, eD⟩ := h
      obtain ⟨p, x1, x2, rfl, np, rfl, f1, f2⟩ := hy
      cases f1
      obtain ⟨tm, htm, hx⟩ := paired_get hP f2
      have sm2 : Same H (upd H1 p (.tup [.int (i : Nat), x2])) := sm.trans (same_new np)
      refine ⟨p, [.int (i : Nat), x2], rfl, sqT_new, rfl, .int (i : Nat), [x2], rfl, x2, [], rfl, rfl, rfl, ?_⟩
      refine ⟨x2, rfl, x2, tm, rfl, hx.keep (tk_same sm2), ho.ts tm (List.mem_of_getElem? htm), fun H3 sm3 => ⟨true, rfl, iteF ?_⟩⟩
      refine ⟨sm2.trans sm3, sm3 _ _ ?_⟩
      rw [upd_ne (ne_of_none eD np)]
      exact eD
    · obtain ⟨sm, eD⟩ := h
      refine ⟨1, rfl, D, [], rfl, sqL_of eD, fun p np => ?_⟩
      exact q _ p (sm.trans (same_new np)) (sm.free np) upd_same

/-! ### need_bill -/
theorem sc_need_bill : FnScope ["thing", "fault"] ["thing"] (defScope s_need_bill) := ⟨rfl, rfl, rfl, by decide +kernel, rfl, by decide +kernel, by decide +kernel⟩
def sp_need_bill (K : PySem.W.Frag) : Sp := fun vs H Q _ => ∃ (v : V) (b : Bl), vs = [v] ∧ BillAt K H v b ∧ b.Ok ∧ ∀ H', Same H H' → Q v H'
theorem eqv_nil : PyData.eqv (.list []) (.list []) = true := SeqAt.eqv_refl _ (by decide)
theorem u_need_bill (T : Txt K mg) : Use P w K mg base 6 "need_bill" ["thing"] (sp_need_bill K) := by
  have U1 : Use P w K mg base 5 "fault_of" ["thing"] (sp_fault_of K) := u_fault_of T
  refine use_of T.d_need_bill sc_need_bill (fun _ _ _ _ _ _ us hl => match us, hl with | [_], _ => rfl) (fun vs H Q E h => ?_) fun f cdv A outer s H vs Q E hr h => ?_
  · obtain ⟨v, b, rfl, _⟩ := h
    rfl
  · obtain ⟨v, b, rfl, hB, ho, q⟩ := h
    refine ⟨_, pss_cons (ps_set (i := 1) sc_need_bill.nd rfl (.inl rfl) (pe_use U1 hr (pa_cons (pv 0) pa_nil)))
      (pss_cons (ps_if (pt_cmpR (op_neD hr.units) (pv 1) (pe_lst pa_nil) (nomark _)) pss_never pss_nil) (pss_one (ps_ret (pv 0)))), ?_⟩
    refine ⟨v, rfl, v, b, rfl, hB, ho, fun H1 p sm np ep => ?_⟩
    refine ⟨.ref p, rfl, Nat.zero_le _, fun o no => ?_⟩
    have ep2 : (upd H1 o (.lst [])) p = some (.lst []) := same_new no _ _ ep
    refine ⟨.list [], .list [], .lst (sqL_of ep2) .nil, .lst sqL_new .nil, by decide, by decide, _, rfl, ?_⟩
    rw [eqv_nil]
    refine iteF ?_
    exact ⟨v, rfl, q _ (sm.trans (same_new no))⟩

/-! ### width_of -/
theorem sc_width_of : FnScope ["bill", "rule", "ahead", "behind"] ["bill"] (defScope s_width_of) := ⟨rfl, rfl, rfl, by decide +kernel, rfl, by decide +kernel, by decide +kernel⟩
def sp_width_of (K : PySem.W.Frag) : Sp := fun vs H Q _ => ∃ (v : V) (b : Bl), vs = [v] ∧ BillAt K H v b ∧ b.Ok ∧ ∀ H', Same H H' → Q (.int b.wide) H'
end
end Bo
namespace Bo
open PySem PySem.Spec PyProof.Rows L2

/-! ### slices of tuples of ints -/
theorem cut_part {row : List Int} {n e : Nat} {lo hi : Int} (h1 : lo = (e : Int) - (n : Int)) (h2 : hi = (e : Int)) (hn : n ≤ e) (he : e ≤ row.length) : cutV (row.map V.int) (some lo) (some hi) = (cut row n e).map V.int := by
  have e1 : lo = ((e - n : Nat) : Int) := by omega
  subst e1 h2
  unfold cutV cut
  rw [HT.sIx_nat, HT.sIx_nat, List.length_map, List.map_take, List.map_drop]
  rw [show min (e - n) row.length = e - n by omega, show min e row.length = e by omega, show e - (e - n) = n by omega]
theorem not_whole {xs : List V} {n e : Nat} {lo hi : Int} (h1 : lo = (e : Int) - (n : Int)) (h2 : hi = (e : Int)) (hn : n ≤ e) (he : e ≤ xs.length) (h : e < xs.length ∨ n < e) : ¬ (HT.sIx xs.length 0 (some lo) = 0 ∧ HT.sIx xs.length xs.length (some hi) = xs.length) := by
  have e1 : lo = ((e - n : Nat) : Int) := by omega
  subst e1 h2
  rw [HT.sIx_nat, HT.sIx_nat]
  omega

section
variable {P : Program} {w : World} {K : PySem.W.Frag} {mg : Str → Option Value} {base : Heap}

/-! ### width_of -/
theorem yes {σ : L2.St} {H : Hp} {Q : Bool → Hp → Prop} (h : Q true H) : tYes σ H Q := h
theorem u_width_of (T : Txt K mg) : Use P w K mg base 1 "width_of" ["bill"] (sp_width_of K) := by
  refine use_of T.d_width_of sc_width_of (fun _ _ _ _ _ _ us hl => match us, hl with | [_], _ => rfl) (fun vs H Q E h => ?_) fun f cdv A outer s H vs Q E hr h => ?_
  · obtain ⟨v, b, rfl, _⟩ := h
    rfl
  · obtain ⟨v, b, rfl, ⟨a, t, ts, rfl, hS, hT, hP⟩, ho, q⟩ := h
    refine ⟨_, pss_one (ps_ret (pe_callB (cr_max rfl) (by rfl) T.b_max (by decide +kernel) (pa_cons (pe_op op_cat (pe_lst (pa_cons pe_int pa_nil))
      (pe_lc (own := [("rule", 1), ("ahead", 2), ("behind", 3)]) (g := gThree K 1 2 3) rfl sc_width_of.nd (pi_tup (pe_ix ix_tup (pv 0) pe_int (fun _ _ => rfl)))
          (blkOk_by (own := [("rule", 1), ("ahead", 2), ("behind", 3)]) (N := ["bill", "rule", "ahead", "behind"]) (sc := defScope s_width_of) (by decide +kernel))
          (fun _ _ _ _ _ => pg_tup rfl (pgs_cons (pg_name (i := 1) sc_width_of.nd rfl (.inl rfl)) (pgs_cons (pg_name (i := 2) sc_width_of.nd rfl (.inl rfl)) (pgs_cons (pg_name (i := 3) sc_width_of.nd rfl (.inl rfl)) pgs_nil))))
          (fun _ _ _ _ _ => pts_nil) (fun _ _ _ _ _ => pe_lenK K T.b_len (pv 1)))) pa_nil))), ?_⟩
    refine ⟨by show 1 ≤ sizeLine; decide, fun l nl => ?_⟩
    have s1 : Same H (upd H l (.lst [.int 1])) := same_new nl
    refine ⟨.ref a, rfl, a, _, 1, .ref t, rfl, rfl, (tk_same s1).tup hS, atI_nat (j := 1) rfl, t, rfl, ⟨ts, (tk_same s1).tup hT⟩, fun D nD => ?_⟩
    refine lc_it (walk_tup (xs := ts)) (fun i H' => Same (upd H l (.lst [.int 1])) H' ∧ H' D = some (.lst ((b.ts.take i).map fun t => V.int (t.ws.length : Int)))) ⟨same_new nD, upd_same⟩ (fun i H' _ h => (tk_same (s1.trans h.1)).tup hT) (fun i x H1 H2 hlt h hy => ?_) (fun H' h => ?_)
    · obtain ⟨sm, eD⟩ := h
      obtain ⟨rfl, hx⟩ := hy
      obtain ⟨tm, htm, hx⟩ := paired_get hP hx
      obtain ⟨c, r, rfl, hc, r', rfl, hR⟩ := hx.keep (tk_same (s1.trans sm))
      refine ⟨c, _, rfl, hc, rfl, .ref r', _, rfl, .int tm.ah, _, rfl, .int tm.bh, _, rfl, rfl, rfl, yes (iteT ?_)⟩
      refine ⟨.ref r', rfl, r', _, rfl, .inr hR, _, eD, ?_, same_at sm nD, ?_⟩
      · rw [List.length_map]
        refine small1000 ?_
        have := ho.l2
        have h2 := List.length_take_le' i b.ts
        omega
      · rw [upd_same, List.take_add_one, htm, List.map_append, List.length_map]
        rfl
    · obtain ⟨sm, eD⟩ := h
      have el : H' l = some (.lst [.int 1]) := sm _ _ upd_same
      rw [show b.ts.take ts.length = b.ts from List.take_of_length_le (by rw [hP.length]; exact Nat.le_refl _)] at eD
      refine ⟨l, D, _, _, rfl, rfl, el, eD, ?_, fun p np => ?_⟩
      · rw [List.length_map, sizeLine_eq]
        have := ho.l2
        show 1 + b.ts.length ≤ 16777216
        omega
      · refine ⟨p, lensOf b.ts, rfl, ?_, by unfold lensOf; simp, fun m h1 h2 => ?_⟩
        · have e : (lensOf b.ts).map V.int = [V.int 1] ++ b.ts.map fun t => V.int (t.ws.length : Int) := by
            unfold lensOf
            rw [List.map_cons, List.map_map]
            rfl
          rw [e]
          exact sqL_new
        · rw [wide_of_max h1 h2]
          exact q _ (s1.trans (sm.trans (same_new np)))

/-! ### index_in -/
theorem sc_index_in : FnScope ["rule", "some", "weight", "result"] ["rule", "some"] (defScope s_index_in) := ⟨rfl, rfl, rfl, by decide +kernel, rfl, by decide +kernel, by decide +kernel⟩
def sp_index_in (K : PySem.W.Frag) : Sp := fun vs H Q _ => ∃ (r v : V) (ws ns : List Int), vs = [r, v] ∧ IntsAt K H r ws ∧ IntsAt K H v ns ∧ ws.length = ns.length ∧ ws.length ≤ 6 ∧ (∀ x ∈ ws, -20 ≤ x ∧ x ≤ 20) ∧ ∀ H', Same H H' → Q (.int (idx ws ns)) H'
theorem u_index_in (T : Txt K mg) : Use P w K mg base 1 "index_in" ["rule", "some"] (sp_index_in K) := by
  refine use_of T.d_index_in sc_index_in (fun _ _ _ _ _ _ us hl => match us, hl with | [_, _], _ => rfl) (fun vs H Q E h => ?_) fun f cdv A outer s H vs Q E hr h => ?_
  · obtain ⟨r, v, ws, ns, rfl, _⟩ := h
    rfl
  · obtain ⟨_, _, ws, ns, rfl, ⟨r, rfl, hR⟩, ⟨v, rfl, hV⟩, hl, h6, hw, q⟩ := h
    refine ⟨_, pss_one (ps_ret (pe_callB (cr_sum rfl) (by rfl) T.b_sum (by decide +kernel) (pa_cons
      (pe_lc (own := [("weight", 2), ("result", 3)]) (g := gTwo K 2 3) rfl sc_index_in.nd (pi_zipM (by rfl) T.b_zip (pa_cons (pv 0) (pa_cons (pe_callB cr_sortT (by rfl) T.b_sorted (by decide +kernel) (pa_cons (pv 1) pa_nil)) pa_nil)))
          (blkOk_by (own := [("weight", 2), ("result", 3)]) (N := ["rule", "some", "weight", "result"]) (sc := defScope s_index_in) (by decide +kernel))
          (fun _ _ _ _ _ => pg_tup rfl (pgs_cons (pg_name (i := 2) sc_index_in.nd rfl (.inl rfl)) (pgs_cons (pg_name (i := 3) sc_index_in.nd rfl (.inl rfl)) pgs_nil)))
          (fun _ _ _ _ _ => pts_nil) (fun _ _ _ _ _ => pe_op op_mul (pv 2) (pv 3))) pa_nil))), ?_⟩
    refine ⟨.ref r, rfl, .ref v, rfl, v, ns, rfl, hV, fun ns' p perm up np => ?_⟩
    obtain rfl := srt_eq perm up
    have s1 : Same H (upd H p (.lst ((srt ns).map V.int))) := same_new np
    have hL1 : SqL K (upd H p (.lst ((srt ns).map V.int))) p ((srt ns).map V.int) := sqL_new
    have hlen : ws.length = (srt ns).length := by rw [srt_len]; exact hl
    refine ⟨r, p, ws.map V.int, (srt ns).map V.int, rfl, (tk_same s1).tup hR, hL1, fun D nD => ?_⟩
    refine lc_it (walk_zipM (xs := ws.map V.int) (ys := (srt ns).map V.int) rfl) (fun i H' => Same (upd H p (.lst ((srt ns).map V.int))) H' ∧ H' D = some (.lst (((List.zipWith (· * ·) ws (srt ns)).take i).map V.int)))
      ⟨same_new nD, upd_same⟩ (fun i H' _ h => ⟨(tk_same (s1.trans h.1)).tup hR, h.1.seq hL1⟩) (fun i x H1 H2 hlt h hy => ?_) (fun H' h => ?_)
    · obtain ⟨sm, eD⟩ := h
      obtain ⟨c, x1, x2, rfl, nc, rfl, f1, f2⟩ := hy
      obtain ⟨n1, hn1, rfl⟩ := int_at f1
      obtain ⟨n2, hn2, rfl⟩ := int_at f2
      have hw1 := hw n1 (List.mem_of_getElem? hn1)
      refine ⟨c, [.int n1, .int n2], rfl, sqT_new, rfl, .int n1, [.int n2], rfl, .int n2, [], rfl, rfl, rfl, yes (iteT ?_)⟩
      refine ⟨.int n1, rfl, .int n2, rfl, n1, n2, rfl, rfl, .inl ⟨by omega, by omega⟩, _, (same_new nc) _ _ eD, ?_, same_at (sm.trans (same_new nc)) nD, ?_⟩
      · rw [List.length_map, List.length_take, List.length_zipWith]
        exact small1000 (by omega)
      · rw [upd_same, zip_take_succ hn1 hn2, List.map_append]
        rfl
    · obtain ⟨sm, eD⟩ := h
      rw [show (List.zipWith (· * ·) ws (srt ns)).take (min (ws.map V.int).length ((srt ns).map V.int).length) = List.zipWith (· * ·) ws (srt ns) from List.take_of_length_le (by
        rw [List.length_zipWith, List.length_map, List.length_map]
        exact Nat.le_refl _)] at eD
      refine ⟨D, _, rfl, sqL_of eD, ?_⟩
      rw [dot_zip]
      exact q H' (s1.trans sm)
end
end Bo
namespace Bo
open PySem PySem.Spec PyProof.Rows L2
section
variable {P : Program} {w : World} {K : PySem.W.Frag} {mg : Str → Option Value} {base : Heap}

/-! ### paid_at -/
theorem sc_paid_at : FnScope ["bill", "row", "spot", "found", "rule", "ahead", "behind"] ["bill", "row", "spot"] (defScope s_paid_at) := ⟨rfl, rfl, rfl, by decide +kernel, rfl, by decide +kernel, by decide +kernel⟩
def sp_paid_at (K : PySem.W.Frag) : Sp := fun vs H Q _ => ∃ (v r : V) (b : Bl) (ns : List Int) (n : Nat), vs = [v, r, .int n] ∧ BillAt K H v b ∧ b.Ok ∧ IntsAt K H r ns ∧ b.wide ≤ n ∧ n < ns.length ∧ ∀ H', Same H H' → Q (.int (payAt b ns n)) H'
theorem u_paid_at (T : Txt K mg) : Use P w K mg base 2 "paid_at" ["bill", "row", "spot"] (sp_paid_at K) := by
  have U1 : Use P w K mg base 1 "index_in" ["rule", "some"] (sp_index_in K) := u_index_in T
  refine use_of T.d_paid_at sc_paid_at (fun _ _ _ _ _ _ us hl => match us, hl with | [_, _, _], _ => rfl) (fun vs H Q E h => ?_) fun f cdv A outer s H vs Q E hr h => ?_
  · obtain ⟨v, r, b, ns, n, rfl, _⟩ := h
    rfl
  · obtain ⟨_, _, b, ns, n, rfl, ⟨v, t, ts, rfl, hS, hT, hP⟩, ho, ⟨r, rfl, hR⟩, hw, hn, q⟩ := h
    refine ⟨_, pss_cons (ps_set (i := 3) sc_paid_at.nd rfl (.inl rfl) (pe_op op_mul (pe_ix ix_tup (pv 0) pe_int (fun _ _ => rfl)) (pe_ix ix_tup (pv 1) (pv 2) (fun _ _ => rfl))))
      (pss_cons (ps_for PassesOwn.never rfl (pi_tup (pe_ix ix_tup (pv 0) pe_int (fun _ _ => rfl))) (pg_tup rfl (pgs_cons (pg_name (i := 4) sc_paid_at.nd rfl (.inl rfl)) (pgs_cons (pg_name (i := 5) sc_paid_at.nd rfl (.inl rfl)) (pgs_cons (pg_name (i := 6) sc_paid_at.nd rfl (.inl rfl)) pgs_nil))))
        (pss_cons (ps_aug (i := 3) sc_paid_at.nd rfl (.inl rfl) (pe_op op_mul (pv 5) (pe_use U1 hr (pa_cons (pv 4) (pa_cons (pe_slice sl_tup (pv 1) (po_some (pe_op op_sub (pv 2) (pe_len T.b_len (pv 4)))) (po_some (pv 2))) pa_nil)))) ip_add)
        (pss_one (ps_aug (i := 3) sc_paid_at.nd rfl (.inl rfl) (pe_op op_mul (pv 6) (pe_use U1 hr (pa_cons (pv 4) (pa_cons (pe_slice sl_tup (pv 1) (po_some (pe_op op_sub (pe_op op_add (pv 2) pe_int) (pe_len T.b_len (pv 4)))) (po_some (pe_op op_add (pv 2) pe_int))) pa_nil)))) ip_add))))
      (pss_one (ps_ret (pv 3)))), ?_⟩
    have hg : ns[n]? = some (ns.getD n 0) := by
      rw [List.getD_eq_getElem?_getD, List.getElem?_eq_getElem hn]
      rfl
    have hg2 : (ns.map V.int)[n]? = some (V.int (ns.getD n 0)) := by
      rw [List.getElem?_map, hg]
      rfl
    have how := ho.own
    refine ⟨.ref v, rfl, v, _, 0, .int b.own, rfl, rfl, hS, atI_nat (j := 0) rfl, .ref r, rfl, .int n, rfl, r, _, _, _, rfl, rfl, hR, atI_nat (j := n) hg2, b.own, ns.getD n 0, rfl, rfl, .inl ⟨by omega, by omega⟩, ?_⟩
    refine ⟨.ref v, rfl, v, _, 1, .ref t, rfl, rfl, hS, atI_nat (j := 1) rfl, t, rfl, ⟨ts, hT⟩, ?_⟩
    refine for_it (walk_tup (xs := ts)) (fun i σ H' => ∃ y4 y5 y6, σ = [some (.ref v), some (.ref r), some (.int n), some (.int (b.own * ns.getD n 0 + tsum ns n (b.ts.take i))), y4, y5, y6] ∧ Same H H')
      ⟨none, none, none, by rw [List.take_zero, tsum_nil, Int.add_zero]; rfl, Same.refl H⟩ (fun i σ H' _ h => ?_) (fun i x σ H1 H2 hlt h hy => ?_) (fun σ H' h => ?_)
    · obtain ⟨_, _, _, _, sm⟩ := h
      exact (tk_same sm).tup hT
    · obtain ⟨y4, y5, y6, rfl, sm⟩ := h
      obtain ⟨rfl, hx⟩ := hy
      obtain ⟨tm, htm, hx⟩ := paired_get hP hx
      have hok := ho.ts tm (List.mem_of_getElem? htm)
      have hwt := wideT_ge (List.mem_of_getElem? htm)
      have hwt2 : wideT b.ts = b.wide := rfl
      have hah := hok.ah
      have hbh := hok.bh
      have hR1 := (tk_same sm).tup hR
      obtain ⟨c, _, rfl, hc, u, rfl, hu⟩ := hx.keep (tk_same sm)
      refine ⟨c, _, rfl, hc, rfl, .ref u, _, rfl, .int tm.ah, _, rfl, .int tm.bh, _, rfl, rfl, ?_⟩
      -- found += ahead * index_in(rule, row[spot - len(rule):spot])
      refine ⟨_, rfl, .int tm.ah, rfl, .ref u, rfl, .ref r, rfl, .int n, rfl, .ref u, rfl, u, _, rfl, .inr hu, n, _, rfl, rfl, _, rfl, .int n, rfl, n, rfl, r, _, rfl, hR1, ?_, fun p np => ?_⟩
      · exact not_whole (n := tm.ws.length) (e := n) (by rw [List.length_map]) rfl (by omega) (by rw [List.length_map]; omega) (.inl (by rw [List.length_map]; exact hn))
      · rw [cut_part (n := tm.ws.length) (e := n) (by rw [List.length_map]) rfl (by omega) (by omega)]
        have s2 : Same H2 (upd H2 p (.tup ((cut ns tm.ws.length n).map V.int))) := same_new np
        refine ⟨.ref u, .ref p, tm.ws, cut ns tm.ws.length n, rfl, ⟨u, rfl, (tk_same s2).tup hu⟩, ⟨p, rfl, sqT_new⟩, (cut_len (by omega) (by omega)).symm, hok.l6, hok.ws, fun H3 s3 => ?_⟩
        refine ⟨tm.ah, _, rfl, rfl, .inl ⟨by omega, by omega⟩, _, _, rfl, rfl, ?_⟩
        -- found += behind * index_in(rule, row[spot + 1 - len(rule):spot + 1])
        have s23 := s2.trans s3
        refine ⟨_, rfl, .int tm.bh, rfl, .ref u, rfl, .ref r, rfl, .int n, rfl, n, 1, rfl, rfl, .ref u, rfl, u, _, rfl, .inr ((tk_same s23).tup hu), _, _, rfl, rfl, _, rfl, .int n, rfl, n, 1, rfl, rfl, _, rfl, r, _, rfl, (tk_same s23).tup hR1, ?_, fun p' np' => ?_⟩
        · exact not_whole (n := tm.ws.length) (e := n + 1) (by rw [List.length_map]; omega) (by omega) (by omega) (by rw [List.length_map]; omega) (.inr (by omega))
        · rw [cut_part (n := tm.ws.length) (e := n + 1) (by rw [List.length_map]; omega) (by omega) (by omega) (by omega)]
          have s4 : Same H3 (upd H3 p' (.tup ((cut ns tm.ws.length (n + 1)).map V.int))) := same_new np'
          refine ⟨.ref u, .ref p', tm.ws, cut ns tm.ws.length (n + 1), rfl, ⟨u, rfl, (tk_same (s23.trans s4)).tup hu⟩, ⟨p', rfl, sqT_new⟩, (cut_len (by omega) (by omega)).symm, hok.l6, hok.ws, fun H4 s5 => ?_⟩
          refine ⟨tm.bh, _, rfl, rfl, .inl ⟨by omega, by omega⟩, _, _, rfl, rfl, some (.ref u), some (.int tm.ah), some (.int tm.bh), ?_, sm.trans (s23.trans (s4.trans s5))⟩
          rw [tsum_take htm]
          unfold tpay
          rw [← Int.add_assoc, ← Int.add_assoc]
          rfl
    · obtain ⟨y4, y5, y6, rfl, sm⟩ := h
      rw [show b.ts.take ts.length = b.ts from List.take_of_length_le (by rw [hP.length]; exact Nat.le_refl _)]
      exact ⟨_, rfl, q H' sm⟩

/-! ### pays_in -/
theorem sc_pays_in : FnScope ["bill", "row", "spot"] ["bill", "row"] (defScope s_pays_in) := ⟨rfl, rfl, rfl, by decide +kernel, rfl, by decide +kernel, by decide +kernel⟩
def sp_pays_in (K : PySem.W.Frag) : Sp := fun vs H Q _ => ∃ (v r : V) (b : Bl) (ns : List Int), vs = [v, r] ∧ BillAt K H v b ∧ b.Ok ∧ IntsAt K H r ns ∧ ns.length ≤ 200 ∧ ∀ H' p, Same H H' → H p = none → H' p = some (.lst ((paysOf b ns).map V.int)) → Q (.ref p) H'
theorem u_pays_in (T : Txt K mg) : Use P w K mg base 3 "pays_in" ["bill", "row"] (sp_pays_in K) := by
  have U1 : Use P w K mg base 2 "paid_at" ["bill", "row", "spot"] (sp_paid_at K) := u_paid_at T
  have U2 : Use P w K mg base 1 "width_of" ["bill"] (sp_width_of K) := u_width_of T
  refine use_of T.d_pays_in sc_pays_in (fun _ _ _ _ _ _ us hl => match us, hl with | [_, _], _ => rfl) (fun vs H Q E h => ?_) fun f cdv A outer s H vs Q E hr h => ?_
  · obtain ⟨v, r, b, ns, rfl, _⟩ := h
    rfl
  · obtain ⟨v, _, b, ns, rfl, hB, ho, ⟨r, rfl, hR⟩, hl, q⟩ := h
    refine ⟨_, pss_one (ps_ret (pe_lc (own := [("spot", 2)]) (g := gName 2) rfl sc_pays_in.nd (pi_range2 (by rfl) T.b_range (pa_cons (pe_use U2 hr (pa_cons (pv 0) pa_nil)) (pa_cons (pe_len T.b_len (pv 1)) pa_nil)))
          (blkOk_by (own := [("spot", 2)]) (N := ["bill", "row", "spot"]) (sc := defScope s_pays_in) (by decide +kernel))
          (fun _ _ _ _ _ => pg_name (i := 2) sc_pays_in.nd rfl (.inl rfl))
          (fun _ _ _ _ _ => pts_nil) (fun _ _ _ _ _ => pe_use U1 hr (pa_cons (pv 0) (pa_cons (pv 1) (pa_cons (pv 2) pa_nil)))))), ?_⟩
    have hw6 := ho.wide6
    refine ⟨v, rfl, v, b, rfl, hB, ho, fun H1 s1 => ?_⟩
    refine ⟨.ref r, rfl, r, _, rfl, .inr ((tk_same s1).tup hR), b.wide, _, rfl, ⟨by omega, by omega, by omega, by rw [List.length_map]; omega⟩, fun D nD => ?_⟩
    have hn : (((ns.map V.int).length : Int) - (b.wide : Int)).toNat = ns.length - b.wide := by
      rw [List.length_map]
      omega
    rw [hn]
    refine lc_it walk_range (fun i H' => Same H1 H' ∧ H' D = some (.lst ((paysFrom b ns b.wide i).map V.int))) ⟨same_new nD, upd_same⟩ (fun i H' _ h => trivial) (fun i x H2 H3 hlt h hy => ?_) (fun H' h => ?_)
    · obtain ⟨sm, eD⟩ := h
      obtain ⟨rfl, rfl⟩ := hy
      have k := tk_same (s1.trans sm)
      refine ⟨rfl, yes (iteT ?_)⟩
      refine ⟨v, rfl, .ref r, rfl, .int ((b.wide : Int) + (i : Int)), rfl, v, .ref r, b, ns, b.wide + i, by rw [Int.natCast_add]; rfl, hB.keep k, ho, ⟨r, rfl, k.tup hR⟩, by omega, by omega, fun H4 s4 => ?_⟩
      refine ⟨_, s4 _ _ eD, ?_, same_at (sm.trans s4) nD, ?_⟩
      · rw [List.length_map, paysFrom_len]
        exact small1000 (by omega)
      · rw [upd_same, paysFrom_succ, List.map_append]
        rfl
    · obtain ⟨sm, eD⟩ := h
      exact q H' D (s1.trans sm) (s1.free nD) eD

/-! ### width -/
theorem sc_width : FnScope ["bill"] ["bill"] (defScope s_width) := ⟨rfl, rfl, rfl, by decide +kernel, rfl, by decide +kernel, by decide +kernel⟩
theorem u_width (T : Txt K mg) : Use P w K mg base 7 "width" ["bill"] (sp_width_of K) := by
  have U1 : Use P w K mg base 6 "need_bill" ["thing"] (sp_need_bill K) := u_need_bill T
  have U2 : Use P w K mg base 1 "width_of" ["bill"] (sp_width_of K) := u_width_of T
  refine use_of T.d_width sc_width (fun _ _ _ _ _ _ us hl => match us, hl with | [_], _ => rfl) (fun vs H Q E h => ?_) fun f cdv A outer s H vs Q E hr h => ?_
  · obtain ⟨v, b, rfl, _⟩ := h
    rfl
  · obtain ⟨v, b, rfl, hB, ho, q⟩ := h
    refine ⟨_, pss_one (ps_ret (pe_use U2 hr (pa_cons (pe_use U1 hr (pa_cons (pv 0) pa_nil)) pa_nil))), ?_⟩
    exact ⟨v, rfl, v, b, rfl, hB, ho, fun H1 s1 => ⟨v, b, rfl, hB.keep (tk_same s1), ho, fun H2 s2 => q H2 (s1.trans s2)⟩⟩

/-! ### pays -/
theorem sc_pays : FnScope ["bill", "row"] ["bill", "row"] (defScope s_pays) := ⟨rfl, rfl, rfl, by decide +kernel, rfl, by decide +kernel, by decide +kernel⟩
def sp_pays (K : PySem.W.Frag) : Sp := fun vs H Q _ => ∃ (v r : V) (b : Bl) (ns : List Int), vs = [v, r] ∧ BillAt K H v b ∧ b.Ok ∧ IntsAt K H r ns ∧ RowOk ns ∧ b.wide ≤ ns.length ∧ ∀ H' p, Same H H' → H' p = some (.tup ((paysOf b ns).map V.int)) → Q (.ref p) H'
theorem u_pays (T : Txt K mg) : Use P w K mg base 8 "pays" ["bill", "row"] (sp_pays K) := by
  have U1 : Use P w K mg base 4 "need_long_row" ["row", "least"] (sp_need_long_row K) := u_need_long_row T
  have U2 : Use P w K mg base 7 "width" ["bill"] (sp_width_of K) := u_width T
  have U3 : Use P w K mg base 3 "pays_in" ["bill", "row"] (sp_pays_in K) := u_pays_in T
  refine use_of T.d_pays sc_pays (fun _ _ _ _ _ _ us hl => match us, hl with | [_, _], _ => rfl) (fun vs H Q E h => ?_) fun f cdv A outer s H vs Q E hr h => ?_
  · obtain ⟨v, r, b, ns, rfl, _⟩ := h
    rfl
  · obtain ⟨v, r, b, ns, rfl, hB, ho, hR, hrow, hw, q⟩ := h
    refine ⟨_, pss_cons (ps_expr (pe_use U1 hr (pa_cons (pv 1) (pa_cons (pe_use U2 hr (pa_cons (pv 0) pa_nil)) pa_nil))))
      (pss_one (ps_ret (pe_callTy call_tuple_of (by rfl) T.b_tuple (by decide +kernel) (pa_cons (pe_use U3 hr (pa_cons (pv 0) (pa_cons (pv 1) pa_nil))) pa_nil)))), ?_⟩
    refine ⟨r, rfl, v, rfl, v, b, rfl, hB, ho, fun H1 s1 => ?_⟩
    refine ⟨r, ns, b.wide, rfl, hR.keep (tk_same s1), hrow, hw, fun H2 s2 => ?_⟩
    have s12 := s1.trans s2
    refine ⟨v, rfl, r, rfl, v, r, b, ns, rfl, hB.keep (tk_same s12), ho, hR.keep (tk_same s12), hrow.l, fun H3 p s3 np ep => ?_⟩
    exact ⟨p, _, rfl, .inl ⟨sqL_of ep, fun l nl => q _ l (s12.trans (s3.trans (same_new nl))) upd_same⟩⟩

/-! ### worth -/
theorem sc_worth : FnScope ["bill", "row"] ["bill", "row"] (defScope s_worth) := ⟨rfl, rfl, rfl, by decide +kernel, rfl, by decide +kernel, by decide +kernel⟩
def sp_worth (K : PySem.W.Frag) : Sp := fun vs H Q _ => ∃ (v r : V) (b : Bl) (ns : List Int), vs = [v, r] ∧ BillAt K H v b ∧ b.Ok ∧ IntsAt K H r ns ∧ RowOk ns ∧ b.wide ≤ ns.length ∧ ∀ H', Same H H' → Q (.int (paysOf b ns).sum) H'
theorem u_worth (T : Txt K mg) : Use P w K mg base 9 "worth" ["bill", "row"] (sp_worth K) := by
  have U1 : Use P w K mg base 8 "pays" ["bill", "row"] (sp_pays K) := u_pays T
  refine use_of T.d_worth sc_worth (fun _ _ _ _ _ _ us hl => match us, hl with | [_, _], _ => rfl) (fun vs H Q E h => ?_) fun f cdv A outer s H vs Q E hr h => ?_
  · obtain ⟨v, r, b, ns, rfl, _⟩ := h
    rfl
  · obtain ⟨v, r, b, ns, rfl, hB, ho, hR, hrow, hw, q⟩ := h
    refine ⟨_, pss_one (ps_ret (pe_callB (cr_sumT rfl) (by rfl) T.b_sum (by decide +kernel) (pa_cons (pe_use U1 hr (pa_cons (pv 0) (pa_cons (pv 1) pa_nil))) pa_nil))), ?_⟩
    exact ⟨v, rfl, r, rfl, v, r, b, ns, rfl, hB, ho, hR, hrow, hw, fun H1 p s1 ep => ⟨p, _, rfl, sqT_of ep, q H1 s1⟩⟩

/-! ### added -/
/-- t + u of tuples, whichever object it is -/
theorem cat_any {H : Hp} {a b : Addr} {xs ys : List V} {Q : VK} (ha : SqT K H a xs) (hb : SqT K H b ys) (hl : xs.length + ys.length ≤ sizeLine) (q : ∀ H' c, Same H H' → SqT K H' c (xs ++ ys) → Q (.ref c) H') : rCatA K (.ref a) (.ref b) H Q := by
  refine ⟨a, b, xs, ys, rfl, rfl, ha, hb, hl, fun e => ?_, fun _ e => ?_, fun _ _ p np => ?_⟩
  · subst e
    exact q H b (Same.refl H) hb
  · subst e
    exact q H a (Same.refl H) (by rw [List.append_nil]; exact ha)
  · exact q _ p (same_new np) sqT_new
theorem sc_added : FnScope ["bill", "other", "found"] ["bill", "other"] (defScope s_added) := ⟨rfl, rfl, rfl, by decide +kernel, rfl, by decide +kernel, by decide +kernel⟩
def sp_added (K : PySem.W.Frag) : Sp := fun vs H Q _ => ∃ (v u : V) (a b : Bl), vs = [v, u] ∧ BillAt K H v a ∧ BillAt K H u b ∧ a.Ok ∧ b.Ok ∧ (plus a b).Ok ∧ ∀ H' z, Same H H' → BillAt K H' z (plus a b) → Q z H'
theorem u_added (T : Txt K mg) : Use P w K mg base 7 "added" ["bill", "other"] (sp_added K) := by
  have U1 : Use P w K mg base 6 "need_bill" ["thing"] (sp_need_bill K) := u_need_bill T
  have U2 : Use P w K mg base 5 "fault_of" ["thing"] (sp_fault_of K) := u_fault_of T
  refine use_of T.d_added sc_added (fun _ _ _ _ _ _ us hl => match us, hl with | [_, _], _ => rfl) (fun vs H Q E h => ?_) fun f cdv A outer s H vs Q E hr h => ?_
  · obtain ⟨v, u, a, b, rfl, _⟩ := h
    rfl
  · obtain ⟨v, u, a, b, rfl, hA, hB, oa, ob, oc, q⟩ := h
    refine ⟨_, pss_cons (ps_expr (pe_use U1 hr (pa_cons (pv 0) pa_nil))) (pss_cons (ps_expr (pe_use U1 hr (pa_cons (pv 1) pa_nil)))
      (pss_cons (ps_set (i := 2) sc_added.nd rfl (.inl rfl) (pe_tup (pa_cons (pe_op op_add (pe_ix ix_tup (pv 0) pe_int (fun _ _ => rfl)) (pe_ix ix_tup (pv 1) pe_int (fun _ _ => rfl)))
          (pa_cons (pe_op op_catA (pe_ix ix_tup (pv 0) pe_int (fun _ _ => rfl)) (pe_ix ix_tup (pv 1) pe_int (fun _ _ => rfl))) pa_nil))))
      (pss_cons (ps_if (pt_cmpR (op_neD hr.units) (pe_use U2 hr (pa_cons (pv 2) pa_nil)) (pe_lst pa_nil) (nomark _)) pss_never pss_nil) (pss_one (ps_ret (pv 2)))))), ?_⟩
    refine ⟨v, rfl, v, a, rfl, hA, oa, fun H1 s1 => ?_⟩
    refine ⟨u, rfl, u, b, rfl, hB.keep (tk_same s1), ob, fun H2 s2 => ?_⟩
    have s12 := s1.trans s2
    obtain ⟨va, ta, tsa, rfl, ha1, ha2, ha3⟩ := hA.keep (tk_same s12)
    obtain ⟨vb, tb, tsb, rfl, hb1, hb2, hb3⟩ := hB.keep (tk_same s12)
    refine ⟨.ref va, rfl, va, _, 0, .int a.own, rfl, rfl, ha1, atI_nat (j := 0) rfl, .ref vb, rfl, vb, _, 0, .int b.own, rfl, rfl, hb1, atI_nat (j := 0) rfl, a.own, b.own, rfl, rfl, ?_⟩
    refine ⟨.ref va, rfl, va, _, 1, .ref ta, rfl, rfl, ha1, atI_nat (j := 1) rfl, .ref vb, rfl, vb, _, 1, .ref tb, rfl, rfl, hb1, atI_nat (j := 1) rfl, ?_⟩
    refine cat_any ha2 hb2 ?_ fun H3 c s3 hc => ?_
    · have la := oa.l2
      have lb := ob.l2
      rw [ha3.length, hb3.length, sizeLine_eq]
      omega
    · refine ⟨by show 2 ≤ sizeLine; decide, fun z nz => ?_⟩
      have s4 : Same H3 (upd H3 z (.tup [.int (a.own + b.own), .ref c])) := same_new nz
      have hZ : BillAt K (upd H3 z (.tup [.int (a.own + b.own), .ref c])) (.ref z) (plus a b) :=
        ⟨z, c, tsa ++ tsb, rfl, sqT_new, (tk_same s4).tup hc, paired_append (terms_keep ha3 (tk_same (s3.trans s4))) (terms_keep hb3 (tk_same (s3.trans s4)))⟩
      refine ⟨.ref z, rfl, .ref z, plus a b, rfl, hZ, oc, fun H5 p s5 np ep => ?_⟩
      refine ⟨Nat.zero_le _, fun o no => ?_⟩
      have ep2 : (upd H5 o (.lst [])) p = some (.lst []) := same_new no _ _ ep
      refine ⟨.list [], .list [], .lst (sqL_of ep2) .nil, .lst sqL_new .nil, by decide, by decide, _, rfl, ?_⟩
      rw [eqv_nil]
      refine iteF ?_
      have s6 := s5.trans (same_new (o := .lst []) no)
      exact ⟨.ref z, rfl, q _ _ (s12.trans (s3.trans (s4.trans s6))) (hZ.keep (tk_same s6))⟩
end
end Bo
namespace Bo
open PySem PySem.Spec PyProof.Rows L2
theorem ix_tupK {X : Cx} (K : PySem.W.Frag) (hK : X.K = K := by rfl) : IxR X (rIxT K) := by
  subst hK
  exact ix_tup
section
variable {P : Program} {w : World} {K : PySem.W.Frag} {mg : Str → Option Value} {base : Heap}

/-! ### _law_index -/
theorem sc_law_index : FnScope ["rule_so", "some", "found", "left", "k"] ["rule_so", "some"] (defScope s_law_index) := ⟨rfl, rfl, rfl, by decide +kernel, rfl, by decide +kernel, by decide +kernel⟩
theorem u_law_index (T : Txt K mg) : Use P w K mg base 1 "_law_index" ["rule_so", "some"] (sp_index_in K) := by
  refine use_of T.d_law_index sc_law_index (fun _ _ _ _ _ _ us hl => match us, hl with | [_, _], _ => rfl) (fun vs H Q E h => ?_) fun f cdv A outer s H vs Q E hr h => ?_
  · obtain ⟨r, v, ws, ns, rfl, _⟩ := h
    rfl
  · obtain ⟨_, _, ws, ns, rfl, ⟨r, rfl, hR⟩, ⟨v, rfl, hV⟩, hl, h6, hw, q⟩ := h
    refine ⟨_, pss_cons (ps_par (i := 2) (j := 3) (by rfl) sc_law_index.nd rfl rfl (by decide) rfl rfl (pa_cons pe_int (pa_cons (pe_callB cr_sortT (by rfl) T.b_sorted (by decide +kernel) (pa_cons (pv 1) pa_nil)) pa_nil)) (by rfl))
      (pss_cons (ps_for PassesOwn.never rfl (pi_range1 (by rfl) T.b_range (pa_cons (pe_len T.b_len (pv 0)) pa_nil)) (pg_name (i := 4) sc_law_index.nd rfl (.inl rfl))
        (pss_one (ps_set (i := 2) sc_law_index.nd rfl (.inl rfl) (pe_op op_add (pv 2) (pe_op op_mul (pe_ix ix_tup (pv 0) (pv 4) (fun _ _ => rfl)) (pe_ix ix_list (pv 3) (pv 4) (fun _ _ => rfl)))))))
      (pss_one (ps_ret (pv 2)))), ?_⟩
    refine ⟨.ref v, rfl, v, ns, rfl, hV, fun ns' p perm up np => ?_⟩
    obtain rfl := srt_eq perm up
    have s1 : Same H (upd H p (.lst ((srt ns).map V.int))) := same_new np
    have hL1 : SqL K (upd H p (.lst ((srt ns).map V.int))) p ((srt ns).map V.int) := sqL_new
    have hlen : ws.length = (srt ns).length := by rw [srt_len]; exact hl
    refine ⟨_, _, rfl, ?_⟩
    refine ⟨.ref r, rfl, r, _, rfl, .inr ((tk_same s1).tup hR), _, rfl, by omega, by rw [List.length_map]; omega, ?_⟩
    rw [show (((ws.map V.int).length : Nat) : Int).toNat = ws.length by rw [List.length_map]; omega]
    refine for_it walk_range (fun i σ H' => ∃ y4, σ = [some (.ref r), some (.ref v), some (.int ((List.zipWith (· * ·) ws (srt ns)).take i).sum), some (.ref p), y4] ∧ Same (upd H p (.lst ((srt ns).map V.int))) H') ⟨none, rfl, Same.refl _⟩
      (fun i σ H' _ h => trivial) (fun i x σ H1 H2 hlt h hy => ?_) (fun σ H' h => ?_)
    · obtain ⟨y4, rfl, sm⟩ := h
      obtain ⟨rfl, rfl⟩ := hy
      have h1 : ws[i]? = some ws[i] := List.getElem?_eq_getElem hlt
      have h2 : (srt ns)[i]? = some ((srt ns)[i]'(by omega)) := List.getElem?_eq_getElem (by omega)
      have hw1 := hw ws[i] (List.mem_of_getElem? h1)
      have m1 : (ws.map V.int)[i]? = some (.int ws[i]) := by rw [List.getElem?_map, h1]; rfl
      have m2 : ((srt ns).map V.int)[i]? = some (.int ((srt ns)[i]'(by omega))) := by rw [List.getElem?_map, h2]; rfl
      refine ⟨_, rfl, .ref r, rfl, .int (0 + (i : Int)), rfl, r, _, i, _, rfl, by rw [Int.zero_add], (tk_same (s1.trans sm)).tup hR, atI_nat m1, .ref p, rfl, .int (0 + (i : Int)), rfl, p, _, i, _, rfl, by rw [Int.zero_add], sm.seq hL1, atI_nat m2, ?_⟩
      refine ⟨_, _, rfl, rfl, .inl ⟨by omega, by omega⟩, _, _, rfl, rfl, some (.int (0 + (i : Int))), ?_, sm⟩
      rw [zip_take_succ h1 h2, List.sum_append, List.sum_singleton]
      rfl
    · obtain ⟨y4, rfl, sm⟩ := h
      rw [show (List.zipWith (· * ·) ws (srt ns)).take ws.length = List.zipWith (· * ·) ws (srt ns) from List.take_of_length_le (by
        rw [List.length_zipWith]
        omega), dot_zip]
      exact ⟨_, rfl, q H' (s1.trans sm)⟩

/-! ### _law_wide -/
theorem sc_law_wide : FnScope ["bill_so", "term"] ["bill_so"] (defScope s_law_wide) := ⟨rfl, rfl, rfl, by decide +kernel, rfl, by decide +kernel, by decide +kernel⟩
theorem u_law_wide (T : Txt K mg) : Use P w K mg base 1 "_law_wide" ["bill_so"] (sp_width_of K) := by
  refine use_of T.d_law_wide sc_law_wide (fun _ _ _ _ _ _ us hl => match us, hl with | [_], _ => rfl) (fun vs H Q E h => ?_) fun f cdv A outer s H vs Q E hr h => ?_
  · obtain ⟨v, b, rfl, _⟩ := h
    rfl
  · obtain ⟨v, b, rfl, ⟨a, t, ts, rfl, hS, hT, hP⟩, ho, q⟩ := h
    refine ⟨_, pss_one (ps_ret (pe_callB (cr_max rfl) (by rfl) T.b_max (by decide +kernel) (pa_cons (pe_op op_cat (pe_lst (pa_cons pe_int pa_nil))
      (pe_lc (own := [("term", 1)]) (g := gName 1) rfl sc_law_wide.nd (pi_tup (pe_ix ix_tup (pv 0) pe_int (fun _ _ => rfl)))
          (blkOk_by (own := [("term", 1)]) (N := ["bill_so", "term"]) (sc := defScope s_law_wide) (by decide +kernel))
          (fun _ _ _ _ _ => pg_name (i := 1) sc_law_wide.nd rfl (.inl rfl))
          (fun _ _ _ _ _ => pts_nil) (fun _ _ _ _ _ => pe_lenK K T.b_len (pe_ix (ix_tupK K) (pv 1) pe_int (fun _ _ => rfl))))) pa_nil))), ?_⟩
    refine ⟨by show 1 ≤ sizeLine; decide, fun l nl => ?_⟩
    have s1 : Same H (upd H l (.lst [.int 1])) := same_new nl
    refine ⟨.ref a, rfl, a, _, 1, .ref t, rfl, rfl, (tk_same s1).tup hS, atI_nat (j := 1) rfl, t, rfl, ⟨ts, (tk_same s1).tup hT⟩, fun D nD => ?_⟩
    refine lc_it (walk_tup (xs := ts)) (fun i H' => Same (upd H l (.lst [.int 1])) H' ∧ H' D = some (.lst ((b.ts.take i).map fun t => V.int (t.ws.length : Int)))) ⟨same_new nD, upd_same⟩ (fun i H' _ h => (tk_same (s1.trans h.1)).tup hT) (fun i x H1 H2 hlt h hy => ?_) (fun H' h => ?_)
    · obtain ⟨sm, eD⟩ := h
      obtain ⟨rfl, hx⟩ := hy
      obtain ⟨tm, htm, hx⟩ := paired_get hP hx
      obtain ⟨c, r, rfl, hc, r', rfl, hR⟩ := hx.keep (tk_same (s1.trans sm))
      refine ⟨rfl, yes (iteT ?_)⟩
      refine ⟨.ref c, rfl, c, _, 0, .ref r', rfl, rfl, hc, atI_nat (j := 0) rfl, r', _, rfl, .inr hR, _, eD, ?_, same_at sm nD, ?_⟩
      · rw [List.length_map]
        refine small1000 ?_
        have := ho.l2
        have h2 := List.length_take_le' i b.ts
        omega
      · rw [upd_same, List.take_add_one, htm, List.map_append, List.length_map]
        rfl
    · obtain ⟨sm, eD⟩ := h
      have el : H' l = some (.lst [.int 1]) := sm _ _ upd_same
      rw [show b.ts.take ts.length = b.ts from List.take_of_length_le (by rw [hP.length]; exact Nat.le_refl _)] at eD
      refine ⟨l, D, _, _, rfl, rfl, el, eD, ?_, fun p np => ?_⟩
      · rw [List.length_map, sizeLine_eq]
        have := ho.l2
        show 1 + b.ts.length ≤ 16777216
        omega
      · refine ⟨p, lensOf b.ts, rfl, ?_, by unfold lensOf; simp, fun m h1 h2 => ?_⟩
        · have e : (lensOf b.ts).map V.int = [V.int 1] ++ b.ts.map fun t => V.int (t.ws.length : Int) := by
            unfold lensOf
            rw [List.map_cons, List.map_map]
            rfl
          rw [e]
          exact sqL_new
        · rw [wide_of_max h1 h2]
          exact q _ (s1.trans (sm.trans (same_new np)))

/-! ### _law_paid -/
theorem sc_law_paid : FnScope ["bill_so", "row_so", "found", "spot", "whole", "rule_so", "before", "after", "size"] ["bill_so", "row_so"] (defScope s_law_paid) := ⟨rfl, rfl, rfl, by decide +kernel, rfl, by decide +kernel, by decide +kernel⟩
theorem u_law_paid (T : Txt K mg) : Use P w K mg base 2 "_law_paid" ["bill_so", "row_so"] (sp_pays_in K) := by
  have U1 : Use P w K mg base 1 "_law_index" ["rule_so", "some"] (sp_index_in K) := u_law_index T
  have U2 : Use P w K mg base 1 "_law_wide" ["bill_so"] (sp_width_of K) := u_law_wide T
  refine use_of T.d_law_paid sc_law_paid (fun _ _ _ _ _ _ us hl => match us, hl with | [_, _], _ => rfl) (fun vs H Q E h => ?_) fun f cdv A outer s H vs Q E hr h => ?_
  · obtain ⟨v, r, b, ns, rfl, _⟩ := h
    rfl
  · obtain ⟨_, _, b, ns, rfl, hB, ho, ⟨r, rfl, hR⟩, hl, q⟩ := h
    obtain ⟨v, t, ts, rfl, hS, hT, hP⟩ := id hB
    refine ⟨_, pss_cons (ps_set (i := 2) sc_law_paid.nd rfl (.inl rfl) (pe_lst pa_nil)) <|
      pss_cons (ps_for PassesOwn.never rfl (pi_range2 (by rfl) T.b_range (pa_cons (pe_use U2 hr (pa_cons (pv 0) pa_nil)) (pa_cons (pe_len T.b_len (pv 1)) pa_nil))) (pg_name (i := 3) sc_law_paid.nd rfl (.inl rfl)) <|
        pss_cons (ps_set (i := 4) sc_law_paid.nd rfl (.inl rfl) (pe_op op_mul (pe_ix ix_tup (pv 0) pe_int (fun _ _ => rfl)) (pe_ix ix_tup (pv 1) (pv 3) (fun _ _ => rfl)))) <|
        pss_cons (ps_for PassesOwn.never rfl (pi_tup (pe_ix ix_tup (pv 0) pe_int (fun _ _ => rfl))) (pg_tup rfl (pgs_cons (pg_name (i := 5) sc_law_paid.nd rfl (.inl rfl)) (pgs_cons (pg_name (i := 6) sc_law_paid.nd rfl (.inl rfl)) (pgs_cons (pg_name (i := 7) sc_law_paid.nd rfl (.inl rfl)) pgs_nil)))) <|
          pss_cons (ps_set (i := 8) sc_law_paid.nd rfl (.inl rfl) (pe_len T.b_len (pv 5))) <|
          pss_cons (ps_set (i := 4) sc_law_paid.nd rfl (.inl rfl) (pe_op op_add (pv 4) (pe_op op_mul (pv 6) (pe_use U1 hr (pa_cons (pv 5) (pa_cons (pe_slice sl_tup (pv 1) (po_some (pe_op op_sub (pv 3) (pv 8))) (po_some (pv 3))) pa_nil)))))) <|
          pss_one (ps_set (i := 4) sc_law_paid.nd rfl (.inl rfl) (pe_op op_add (pv 4) (pe_op op_mul (pv 7) (pe_use U1 hr (pa_cons (pv 5) (pa_cons (pe_slice sl_tup (pv 1) (po_some (pe_op op_sub (pe_op op_add (pv 3) pe_int) (pv 8))) (po_some (pe_op op_add (pv 3) pe_int))) pa_nil))))))) <|
        pss_one (ps_expr (pe_bm PySem.F.plainAttrs_list PySem.F.slot_list_append PySem.F.type_list_append mt_append (pv 2) (pa_cons (pv 4) pa_nil)))) <|
      pss_one (ps_ret (pv 2)), ?_⟩
    refine ⟨Nat.zero_le _, fun p np => ?_⟩
    have s0 : Same H (upd H p (.lst [])) := same_new np
    refine ⟨.ref v, rfl, .ref v, b, rfl, hB.keep (tk_same s0), ho, fun H1 s1 => ?_⟩
    have s01 := s0.trans s1
    have ep1 : H1 p = some (.lst []) := s1 _ _ upd_same
    have hw6 := ho.wide6
    have how := ho.own
    refine ⟨.ref r, rfl, r, _, rfl, .inr ((tk_same s01).tup hR), b.wide, _, rfl, ⟨by omega, by omega, by omega, by rw [List.length_map]; omega⟩, ?_⟩
    rw [show (((ns.map V.int).length : Int) - (b.wide : Int)).toNat = ns.length - b.wide by rw [List.length_map]; omega]
    refine for_it walk_range (fun i σ H' => ∃ y3 y4 y5 y6 y7 y8, σ = [some (.ref v), some (.ref r), some (.ref p), y3, y4, y5, y6, y7, y8] ∧ Same H H' ∧ H' p = some (.lst ((paysFrom b ns b.wide i).map V.int)))
      ⟨none, none, none, none, none, none, rfl, s01, ep1⟩ (fun i σ H' _ h => trivial) (fun i x σ H2 H3 hlt h hy => ?_) (fun σ H' h => ?_)
    · obtain ⟨y3, y4, y5, y6, y7, y8, rfl, sm, ep⟩ := h
      obtain ⟨rfl, hxv⟩ := hy
      have k := tk_same sm
      have hn : b.wide + i < ns.length := by omega
      have esp : (b.wide : Int) + (i : Int) = ((b.wide + i : Nat) : Int) := by rw [Int.natCast_add]
      generalize hnn : b.wide + i = n at hn esp
      have hxv : x = V.int (n : Int) := hxv.trans (congrArg V.int esp)
      subst hxv
      have hg : ns[n]? = some (ns.getD n 0) := by
        rw [List.getD_eq_getElem?_getD, List.getElem?_eq_getElem hn]
        rfl
      have hg2 : (ns.map V.int)[n]? = some (V.int (ns.getD n 0)) := by
        rw [List.getElem?_map, hg]
        rfl
      refine ⟨.ref v, rfl, v, _, 0, .int b.own, rfl, rfl, k.tup hS, atI_nat (j := 0) rfl, .ref r, rfl, .int n, rfl, r, _, _, _, rfl, rfl, k.tup hR, atI_nat (j := n) hg2, b.own, ns.getD n 0, rfl, rfl, .inl ⟨by omega, by omega⟩, ?_⟩
      refine ⟨.ref v, rfl, v, _, 1, .ref t, rfl, rfl, k.tup hS, atI_nat (j := 1) rfl, t, rfl, ⟨ts, k.tup hT⟩, ?_⟩
      refine for_it (walk_tup (xs := ts)) (fun j σ H' => ∃ y5 y6 y7 y8, σ = [some (.ref v), some (.ref r), some (.ref p), some (.int n), some (.int (b.own * ns.getD n 0 + tsum ns n (b.ts.take j))), y5, y6, y7, y8] ∧ Same H H' ∧ H' p = some (.lst ((paysFrom b ns b.wide i).map V.int)))
        ⟨y5, y6, y7, y8, by rw [List.take_zero, tsum_nil, Int.add_zero]; rfl, sm, ep⟩ (fun j σ H' _ h => ?_) (fun j x σ H4 H5 hlt2 h hy => ?_) (fun σ H' h => ?_)
      · obtain ⟨_, _, _, _, _, sm', _⟩ := h
        exact (tk_same sm').tup hT
      · obtain ⟨z5, z6, z7, z8, rfl, sm', ep'⟩ := h
        obtain ⟨rfl, hx⟩ := hy
        obtain ⟨tm, htm, hx⟩ := paired_get hP hx
        have hok := ho.ts tm (List.mem_of_getElem? htm)
        have hwt := wideT_ge (List.mem_of_getElem? htm)
        have hwt2 : wideT b.ts = b.wide := rfl
        have hah := hok.ah
        have hbh := hok.bh
        have hR1 := (tk_same sm').tup hR
        obtain ⟨c, _, rfl, hc, u, rfl, hu⟩ := hx.keep (tk_same sm')
        refine ⟨c, _, rfl, hc, rfl, .ref u, _, rfl, .int tm.ah, _, rfl, .int tm.bh, _, rfl, rfl, ?_⟩
        refine ⟨.ref u, rfl, u, _, rfl, .inr hu, ?_⟩
        rw [show (((tm.ws.map V.int).length : Nat) : Int) = (tm.ws.length : Int) by rw [List.length_map]]
        refine ⟨_, rfl, .int tm.ah, rfl, .ref u, rfl, .ref r, rfl, .int n, rfl, .int tm.ws.length, rfl, n, tm.ws.length, rfl, rfl, _, rfl, .int n, rfl, n, rfl, r, _, rfl, hR1, ?_, fun p1 np1 => ?_⟩
        · exact not_whole (n := tm.ws.length) (e := n) rfl rfl (by omega) (by rw [List.length_map]; omega) (.inl (by rw [List.length_map]; exact hn))
        · rw [cut_part (n := tm.ws.length) (e := n) rfl rfl (by omega) (by omega)]
          have s2 : Same H5 (upd H5 p1 (.tup ((cut ns tm.ws.length n).map V.int))) := same_new np1
          refine ⟨.ref u, .ref p1, tm.ws, cut ns tm.ws.length n, rfl, ⟨u, rfl, (tk_same s2).tup hu⟩, ⟨p1, rfl, sqT_new⟩, (cut_len (by omega) (by omega)).symm, hok.l6, hok.ws, fun H6 s3 => ?_⟩
          refine ⟨tm.ah, _, rfl, rfl, .inl ⟨by omega, by omega⟩, _, _, rfl, rfl, ?_⟩
          have s23 := s2.trans s3
          refine ⟨_, rfl, .int tm.bh, rfl, .ref u, rfl, .ref r, rfl, .int n, rfl, n, 1, rfl, rfl, .int tm.ws.length, rfl, _, _, rfl, rfl, _, rfl, .int n, rfl, n, 1, rfl, rfl, _, rfl, r, _, rfl, (tk_same s23).tup hR1, ?_, fun p2 np2 => ?_⟩
          · exact not_whole (n := tm.ws.length) (e := n + 1) (by omega) (by omega) (by omega) (by rw [List.length_map]; omega) (.inr (by omega))
          · rw [cut_part (n := tm.ws.length) (e := n + 1) (by omega) (by omega) (by omega) (by omega)]
            have s4 : Same H6 (upd H6 p2 (.tup ((cut ns tm.ws.length (n + 1)).map V.int))) := same_new np2
            refine ⟨.ref u, .ref p2, tm.ws, cut ns tm.ws.length (n + 1), rfl, ⟨u, rfl, (tk_same (s23.trans s4)).tup hu⟩, ⟨p2, rfl, sqT_new⟩, (cut_len (by omega) (by omega)).symm, hok.l6, hok.ws, fun H7 s5 => ?_⟩
            have s25 := s23.trans (s4.trans s5)
            refine ⟨tm.bh, _, rfl, rfl, .inl ⟨by omega, by omega⟩, _, _, rfl, rfl, some (.ref u), some (.int tm.ah), some (.int tm.bh), some (.int tm.ws.length), ?_, sm'.trans s25, s25 _ _ ep'⟩
            rw [tsum_take htm]
            unfold tpay
            rw [← Int.add_assoc, ← Int.add_assoc]
            rfl
      · obtain ⟨z5, z6, z7, z8, rfl, sm', ep'⟩ := h
        rw [show b.ts.take ts.length = b.ts from List.take_of_length_le (by rw [hP.length]; exact Nat.le_refl _)]
        refine ⟨.ref p, rfl, .inl ⟨rfl, _, sqL_of ep'⟩, _, rfl, p, _, _, rfl, rfl, ep', ?_, _, _, _, _, _, _, rfl, same_at sm' np, ?_⟩
        · rw [List.length_map, paysFrom_len]
          exact small1000 (by omega)
        · rw [upd_same, paysFrom_succ, List.map_append, hnn]
          rfl
    · obtain ⟨y3, y4, y5, y6, y7, y8, rfl, sm, ep⟩ := h
      exact ⟨.ref p, rfl, q H' p sm np ep⟩
end
end Bo
namespace Bo
open PySem PySem.Spec PyProof.Rows L2
section
variable {P : Program} {w : World} {K : PySem.W.Frag} {mg : Str → Option Value} {base : Heap}

/-! ### _law_right -/
theorem sc_law_right : FnScope ["bill_so", "row_so", "due", "size", "again", "heard"] ["bill_so", "row_so"] (defScope s_law_right) := ⟨rfl, rfl, rfl, by decide +kernel, rfl, by decide +kernel, by decide +kernel⟩
def heardD (b : Bl) (ns : List Int) : PyData := .list [billD b, .int b.wide, .tuple ((paysOf b ns).map PyData.int), .int (paysOf b ns).sum]
theorem good_heard {b : Bl} {ns : List Int} (ho : b.Ok) (hr : RowOk ns) (hl : ns.length ≤ 60) : Good 5 5400 (heardD b ns) := by
  have h1 := paysOf_abs ho hr
  have h2 : (paysOf b ns).length ≤ 60 := by rw [paysOf_len]; omega
  have h3 := sum_abs h1
  have h4 : (paysOf b ns).length * 25000000000 ≤ 60 * 25000000000 := Nat.mul_le_mul_right _ h2
  have h5 := ho.wide6
  have g4 : Good 4 60 (.int (paysOf b ns).sum) := good_int (small60 (m := 1500000000000) (by omega) (by decide))
  have g3 : Good 4 3660 (.tuple ((paysOf b ns).map PyData.int)) := good_tup (D := 3) (good_ints (n := 60) (fun i hi => small60 (h1 i hi) (by decide)) h2)
  have g2 : Good 4 60 (.int (b.wide : Int)) := good_int (small60 (m := 6) (by omega) (by decide))
  have g1 : Good 4 1300 (billD b) := good_bill ho
  exact good_lst (good_cons (W' := 3900) g1 (good_cons (W' := 3800) g2 (good_cons (W' := 61) g3 (good_cons (W' := 0) g4 good_nil (by omega)) (by omega)) (by omega)) (by omega))
def sp_law_right (K : PySem.W.Frag) : Sp := fun vs H Q _ => ∃ (v r : V) (b : Bl) (ns : List Int), vs = [v, r] ∧ BillAt K H v b ∧ b.Ok ∧ IntsAt K H r ns ∧ RowOk ns ∧ ns.length ≤ 60 ∧ b.wide ≤ ns.length ∧ ∀ H', Same H H' → Q (.bl true) H'
theorem u_law_right (T : Txt K mg) : UseG P w K mg base 10 "_law_right" ["bill_so", "row_so"] (sp_law_right K) := by
  have U1 : Use P w K mg base 2 "_law_paid" ["bill_so", "row_so"] (sp_pays_in K) := u_law_paid T
  have U2 : Use P w K mg base 1 "_law_wide" ["bill_so"] (sp_width_of K) := u_law_wide T
  have U3 : Use P w K mg base 6 "need_bill" ["thing"] (sp_need_bill K) := u_need_bill T
  have U4 : Use P w K mg base 7 "width" ["bill"] (sp_width_of K) := u_width T
  have U5 : Use P w K mg base 8 "pays" ["bill", "row"] (sp_pays K) := u_pays T
  have U6 : Use P w K mg base 9 "worth" ["bill", "row"] (sp_worth K) := u_worth T
  refine useG_of T.d_law_right sc_law_right (fun _ _ _ _ _ _ us hl => match us, hl with | [_, _], _ => rfl) (fun vs H Q E h => ?_) fun f cdv A outer s H vs Q E hG hr h => ?_
  · obtain ⟨v, r, b, ns, rfl, _⟩ := h
    rfl
  · obtain ⟨v, r, b, ns, rfl, hB, ho, hR, hrow, hl, hw, q⟩ := h
    refine ⟨_, pss_cons (ps_par (i := 2) (j := 3) (by rfl) sc_law_right.nd rfl rfl (by decide) rfl rfl (pa_cons (pe_use U1 hr (pa_cons (pv 0) (pa_cons (pv 1) pa_nil))) (pa_cons (pe_use U2 hr (pa_cons (pv 0) pa_nil)) pa_nil)) (by rfl)) <|
      pss_cons (ps_for PassesOwn.never rfl (pi_range1 (by rfl) T.b_range (pa_cons pe_int pa_nil)) (pg_name (i := 4) sc_law_right.nd rfl (.inl rfl)) <|
        pss_cons (ps_set (i := 5) sc_law_right.nd rfl (.inl rfl) (pe_lst (pa_cons (pe_use U3 hr (pa_cons (pv 0) pa_nil)) (pa_cons (pe_use U4 hr (pa_cons (pv 0) pa_nil))
          (pa_cons (pe_use U5 hr (pa_cons (pv 0) (pa_cons (pv 1) pa_nil))) (pa_cons (pe_use U6 hr (pa_cons (pv 0) (pa_cons (pv 1) pa_nil))) pa_nil)))))) <|
        pss_one (ps_if (pt_cmpR op_ne (pe_callB (cr_repr hG hr.units) (by rfl) T.b_repr (by decide +kernel) (pa_cons (pv 5) pa_nil))
          (pe_callB (cr_repr hG hr.units) (by rfl) T.b_repr (by decide +kernel) (pa_cons (pe_lst (pa_cons (pv 0) (pa_cons (pv 3) (pa_cons (pe_callTy call_tuple_of (by rfl) T.b_tuple (by decide +kernel) (pa_cons (pv 2) pa_nil))
            (pa_cons (pe_callB (cr_sum rfl) (by rfl) T.b_sum (by decide +kernel) (pa_cons (pv 2) pa_nil)) pa_nil))))) pa_nil)) (nomark _)) (pss_one (ps_ret pe_bl)) pss_nil)) <|
      pss_one (ps_ret pe_bl), ?_⟩
    refine ⟨v, rfl, r, rfl, v, r, b, ns, rfl, hB, ho, hR, hrow.l, fun H1 p s1 np ep => ?_⟩
    refine ⟨v, rfl, v, b, rfl, hB.keep (tk_same s1), ho, fun H2 s2 => ?_⟩
    refine ⟨_, _, rfl, 2, rfl, by decide, by decide, ?_⟩
    have gd := good_heard ho hrow hl
    refine for_it walk_range (fun i σ H' => ∃ y4 y5, σ = [some v, some r, some (.ref p), some (.int b.wide), y4, y5] ∧ Same H H' ∧ H' p = some (.lst ((paysOf b ns).map V.int))) ⟨none, none, rfl, s1.trans s2, s2 _ _ ep⟩ (fun i σ H' _ h => trivial) (fun i x σ H3 H4 hlt h hy => ?_) (fun σ H' h => ?_)
    · obtain ⟨y4, y5, rfl, sm, ep'⟩ := h
      obtain ⟨rfl, rfl⟩ := hy
      -- heard
      refine ⟨v, rfl, v, b, rfl, hB.keep (tk_same sm), ho, fun H5 s5 => ?_⟩
      have t5 := sm.trans s5
      refine ⟨v, rfl, v, b, rfl, hB.keep (tk_same t5), ho, fun H6 s6 => ?_⟩
      have t6 := t5.trans s6
      refine ⟨v, rfl, r, rfl, v, r, b, ns, rfl, hB.keep (tk_same t6), ho, hR.keep (tk_same t6), hrow, hw, fun H7 c s7 ec => ?_⟩
      have t7 := t6.trans s7
      refine ⟨v, rfl, r, rfl, v, r, b, ns, rfl, hB.keep (tk_same t7), ho, hR.keep (tk_same t7), hrow, hw, fun H8 s8 => ?_⟩
      have t8 := t7.trans s8
      refine ⟨by show 4 ≤ sizeLine; decide, fun l nl => ?_⟩
      have s9 : Same H8 (upd H8 l (.lst [v, .int b.wide, .ref c, .int (paysOf b ns).sum])) := same_new nl
      have t9 := t8.trans s9
      have dp1 : Dp K (upd H8 l (.lst [v, .int b.wide, .ref c, .int (paysOf b ns).sum])) (.ref l) (heardD b ns) :=
        .lst sqL_new (.cons (hB.keep (tk_same t9)).dp (.cons (.int _) (.cons (.tup (sqT_of (s9 _ _ (s8 _ _ ec))) (dp_ints _)) (.cons (.int _) .nil))))
      have ep9 : (upd H8 l (.lst [v, .int b.wide, .ref c, .int (paysOf b ns).sum])) p = some (.lst ((paysOf b ns).map V.int)) := s9 _ _ (s8 _ _ (s7 _ _ (s6 _ _ (s5 _ _ ep'))))
      refine ⟨.ref l, rfl, l, heardD b ns, rfl, dp1, gd.sh, gd.nd, gd.fits (by omega), Nat.le_trans gd.dp (by decide), ?_⟩
      refine ⟨v, rfl, .int b.wide, rfl, .ref p, rfl, p, _, rfl, .inl ⟨sqL_of ep9, fun c2 nc2 => ?_⟩⟩
      have s10 : Same (upd H8 l (.lst [v, .int b.wide, .ref c, .int (paysOf b ns).sum])) (upd (upd H8 l (.lst [v, .int b.wide, .ref c, .int (paysOf b ns).sum])) c2 (.tup ((paysOf b ns).map V.int))) := same_new nc2
      have t10 := t9.trans s10
      have ep10 := s10 _ _ ep9
      have ec10 : (upd (upd H8 l (.lst [v, .int b.wide, .ref c, .int (paysOf b ns).sum])) c2 (.tup ((paysOf b ns).map V.int))) c2 = some (.tup ((paysOf b ns).map V.int)) := upd_same
      generalize upd (upd H8 l (.lst [v, .int b.wide, .ref c, .int (paysOf b ns).sum])) c2 (.tup ((paysOf b ns).map V.int)) = H10 at t10 ep10 ec10 ⊢
      refine ⟨.ref p, rfl, p, _, rfl, sqL_of ep10, by show 4 ≤ sizeLine; decide, fun l2 nl2 => ?_⟩
      have s11 : Same H10 (upd H10 l2 (.lst [v, .int b.wide, .ref c2, .int (paysOf b ns).sum])) := same_new nl2
      have dp2 : Dp K (upd H10 l2 (.lst [v, .int b.wide, .ref c2, .int (paysOf b ns).sum])) (.ref l2) (heardD b ns) :=
        .lst sqL_new (.cons (hB.keep (tk_same (t10.trans s11))).dp (.cons (.int _) (.cons (.tup (sqT_of (s11 _ _ ec10)) (dp_ints _)) (.cons (.int _) .nil))))
      refine ⟨l2, heardD b ns, rfl, dp2, gd.sh, gd.nd, gd.fits (by omega), Nat.le_trans gd.dp (by decide), rfl, _, rfl, iteNS rfl ?_⟩
      exact ⟨_, _, rfl, t10.trans s11, s11 _ _ ep10⟩
    · obtain ⟨y4, y5, rfl, sm, _⟩ := h
      exact q H' sm

/-! ### _law_sum_right -/
theorem sc_law_sum_right : FnScope ["one", "two", "row_so", "due", "size", "whole"] ["one", "two", "row_so"] (defScope s_law_sum_right) := ⟨rfl, rfl, rfl, by decide +kernel, rfl, by decide +kernel, by decide +kernel⟩
def sp_law_sum_right (K : PySem.W.Frag) : Sp := fun vs H Q _ => ∃ (v u r : V) (a b : Bl) (ns : List Int), vs = [v, u, r] ∧ BillAt K H v a ∧ BillAt K H u b ∧ a.Ok ∧ b.Ok ∧ IntsAt K H r ns ∧ RowOk ns ∧ a.wide ≤ ns.length ∧ b.wide ≤ ns.length ∧ ∀ H', Same H H' → Q (.bl true) H'
/-- xs[n:] of a list of ints -/
theorem cut_rest {ns : List Int} {n : Nat} {lo : Int} (h : lo = (n : Int)) (hn : n ≤ ns.length) : cutV (ns.map V.int) (some lo) none = (ns.drop n).map V.int := by
  subst h
  unfold cutV
  rw [HT.sIx_nat, HT.sIx_none, List.length_map, Nat.min_eq_left hn, List.map_drop]
  exact List.take_of_length_le (by rw [List.length_drop, List.length_map]; exact Nat.le_refl _)
theorem u_law_sum_right (T : Txt K mg) : UseG P w K mg base 10 "_law_sum_right" ["one", "two", "row_so"] (sp_law_sum_right K) := by
  have U1 : Use P w K mg base 2 "_law_paid" ["bill_so", "row_so"] (sp_pays_in K) := u_law_paid T
  have U2 : Use P w K mg base 1 "_law_wide" ["bill_so"] (sp_width_of K) := u_law_wide T
  have U3 : Use P w K mg base 7 "added" ["bill", "other"] (sp_added K) := u_added T
  have U4 : Use P w K mg base 9 "worth" ["bill", "row"] (sp_worth K) := u_worth T
  refine useG_of T.d_law_sum_right sc_law_sum_right (fun _ _ _ _ _ _ us hl => match us, hl with | [_, _, _], _ => rfl) (fun vs H Q E h => ?_) fun f cdv A outer s H vs Q E hG hr h => ?_
  · obtain ⟨v, u, r, a, b, ns, rfl, _⟩ := h
    rfl
  · obtain ⟨v, u, r, a, b, ns, rfl, hA, hB, oa, ob, hR, hrow, hwa, hwb, q⟩ := h
    refine ⟨_, pss_cons (ps_set (i := 3) sc_law_sum_right.nd rfl (.inl rfl) (pe_tup (pa_cons (pe_op op_add (pe_ix ix_tup (pv 0) pe_int (fun _ _ => rfl)) (pe_ix ix_tup (pv 1) pe_int (fun _ _ => rfl)))
          (pa_cons (pe_op op_catA (pe_ix ix_tup (pv 0) pe_int (fun _ _ => rfl)) (pe_ix ix_tup (pv 1) pe_int (fun _ _ => rfl))) pa_nil)))) <|
      pss_cons (ps_if (PW.pt (pw_or (pt_not (pt_chain op_le op_le (pe_un un_neg pe_int) (pe_ix ix_tup (pv 3) pe_int (fun _ _ => rfl)) pe_int)) (pw_or1 (pt_cmpR op_gt (pe_len T.b_len (pe_ix ix_tup (pv 3) pe_int (fun _ _ => rfl))) pe_int (nomark _))))) (pss_one (ps_ret pe_bl)) pss_nil) <|
      pss_cons (ps_if (pt_cmpR op_ne (pe_callB (cr_repr hG hr.units) (by rfl) T.b_repr (by decide +kernel) (pa_cons (pe_use U3 hr (pa_cons (pv 0) (pa_cons (pv 1) pa_nil))) pa_nil)) (pe_callB (cr_repr hG hr.units) (by rfl) T.b_repr (by decide +kernel) (pa_cons (pv 3) pa_nil)) (nomark _)) (pss_one (ps_ret pe_bl)) pss_nil) <|
      pss_cons (ps_set (i := 4) sc_law_sum_right.nd rfl (.inl rfl) (pe_callB (call_max2 rfl) (by rfl) T.b_max (by decide +kernel) (pa_cons (pe_use U2 hr (pa_cons (pv 0) pa_nil)) (pa_cons (pe_use U2 hr (pa_cons (pv 1) pa_nil)) pa_nil)))) <|
      pss_cons (ps_set (i := 5) sc_law_sum_right.nd rfl (.inl rfl) (pe_op op_add
        (pe_callB (cr_sum rfl) (by rfl) T.b_sum (by decide +kernel) (pa_cons (pe_slice sl_list (pe_use U1 hr (pa_cons (pv 0) (pa_cons (pv 2) pa_nil))) (po_some (pe_op op_sub (pv 4) (pe_use U2 hr (pa_cons (pv 0) pa_nil)))) po_none) pa_nil))
        (pe_callB (cr_sum rfl) (by rfl) T.b_sum (by decide +kernel) (pa_cons (pe_slice sl_list (pe_use U1 hr (pa_cons (pv 1) (pa_cons (pv 2) pa_nil))) (po_some (pe_op op_sub (pv 4) (pe_use U2 hr (pa_cons (pv 1) pa_nil)))) po_none) pa_nil)))) <|
      pss_one (ps_ret (pe_cmpR op_eq (pe_use U4 hr (pa_cons (pe_use U3 hr (pa_cons (pv 0) (pa_cons (pv 1) pa_nil))) (pa_cons (pv 2) pa_nil))) (pv 5) (nomark _))), ?_⟩
    obtain ⟨va, ta, tsa, rfl, ha1, ha2, ha3⟩ := id hA
    obtain ⟨vb, tb, tsb, rfl, hb1, hb2, hb3⟩ := id hB
    refine ⟨.ref va, rfl, va, _, 0, .int a.own, rfl, rfl, ha1, atI_nat (j := 0) rfl, .ref vb, rfl, vb, _, 0, .int b.own, rfl, rfl, hb1, atI_nat (j := 0) rfl, a.own, b.own, rfl, rfl, ?_⟩
    refine ⟨.ref va, rfl, va, _, 1, .ref ta, rfl, rfl, ha1, atI_nat (j := 1) rfl, .ref vb, rfl, vb, _, 1, .ref tb, rfl, rfl, hb1, atI_nat (j := 1) rfl, ?_⟩
    refine cat_any ha2 hb2 ?_ fun H1 c s1 hc => ?_
    · have la := oa.l2
      have lb := ob.l2
      rw [ha3.length, hb3.length, sizeLine_eq]
      omega
    refine ⟨by show 2 ≤ sizeLine; decide, fun z nz => ?_⟩
    have s2 : Same H1 (upd H1 z (.tup [.int (a.own + b.own), .ref c])) := same_new nz
    have hz : SqT K (upd H1 z (.tup [.int (a.own + b.own), .ref c])) z [.int (a.own + b.own), .ref c] := sqT_new
    have hc2 := (tk_same s2).tup hc
    have t2 := s1.trans s2
    have hZ : BillAt K (upd H1 z (.tup [.int (a.own + b.own), .ref c])) (.ref z) (plus a b) :=
      ⟨z, c, tsa ++ tsb, rfl, hz, hc2, paired_append (terms_keep ha3 (tk_same t2)) (terms_keep hb3 (tk_same t2))⟩
    generalize upd H1 z (.tup [.int (a.own + b.own), .ref c]) = H2 at s2 hz hc2 t2 hZ ⊢
    -- if not -50 <= due[0] <= 50 or len(due[1]) > 2
    have hlen : (tsa ++ tsb).length = (plus a b).ts.length := by
      rw [List.length_append, ha3.length, hb3.length]
      exact (List.length_append ..).symm
    have out : ∀ D : Ends, D.rt = Q → tRet (tC (.bl true)) D [some (.ref va), some (.ref vb), some r, some (.ref z), none, none] H2 := fun D hD => by
      show D.rt (.bl true) H2
      rw [hD]
      exact q H2 t2
    refine ⟨50, rfl, .ref z, rfl, z, _, 0, .int (a.own + b.own), rfl, rfl, hz, atI_nat (j := 0) rfl, -50, a.own + b.own, rfl, rfl, _, rfl, ?_⟩
    by_cases c1 : ¬ (-50 ≤ a.own + b.own)
    · rw [decide_eq_false c1]
      refine iteF ⟨_, rfl, iteT ?_⟩
      exact iteT (out _ rfl)
    replace c1 := Decidable.not_not.mp c1
    rw [decide_eq_true c1]
    refine iteT ⟨_, 50, rfl, rfl, _, rfl, ?_⟩
    by_cases c2 : ¬ (a.own + b.own ≤ 50)
    · rw [decide_eq_false c2]
      refine iteT ?_
      exact iteT (out _ rfl)
    replace c2 := Decidable.not_not.mp c2
    rw [decide_eq_true c2]
    refine iteF ?_
    refine ⟨.ref z, rfl, z, _, 1, .ref c, rfl, rfl, hz, atI_nat (j := 1) rfl, c, _, rfl, .inr hc2, _, 2, rfl, rfl, _, rfl, ?_⟩
    by_cases c3 : (2 : Int) < ((tsa ++ tsb).length : Int)
    · rw [decide_eq_true c3]
      exact iteT (out _ rfl)
    rw [decide_eq_false c3]
    refine iteF ?_
    have op : (plus a b).Ok := ⟨⟨c1, c2⟩, by omega, fun t ht => by
      rcases List.mem_append.mp (show t ∈ a.ts ++ b.ts from ht) with m | m
      · exact oa.ts t m
      · exact ob.ts t m⟩
    -- repr(added(one, two)) != repr(due)
    have gd := good_bill op
    refine ⟨.ref va, rfl, .ref vb, rfl, .ref va, .ref vb, a, b, rfl, hA.keep (tk_same t2), hB.keep (tk_same t2), oa, ob, op, fun H3 y s3 hY => ?_⟩
    have t3 := t2.trans s3
    obtain ⟨y0, _, _, rfl, _⟩ := id hY
    refine ⟨y0, billD (plus a b), rfl, hY.dp, gd.sh, gd.nd, gd.fits (by omega), Nat.le_trans gd.dp (by decide), ?_⟩
    refine ⟨.ref z, rfl, z, billD (plus a b), rfl, (hZ.keep (tk_same s3)).dp, gd.sh, gd.nd, gd.fits (by omega), Nat.le_trans gd.dp (by decide), rfl, _, rfl, iteNS rfl ?_⟩
    -- size
    refine ⟨.ref va, rfl, .ref va, a, rfl, hA.keep (tk_same t3), oa, fun H4 s4 => ?_⟩
    have t4 := t3.trans s4
    refine ⟨.ref vb, rfl, .ref vb, b, rfl, hB.keep (tk_same t4), ob, fun H5 s5 => ?_⟩
    have t5 := t4.trans s5
    refine ⟨a.wide, b.wide, rfl, ?_⟩
    have emax : (if (b.wide : Int) > (a.wide : Int) then (b.wide : Int) else (a.wide : Int)) = ((max a.wide b.wide : Nat) : Int) := by
      by_cases hm : (b.wide : Int) > (a.wide : Int)
      · rw [if_pos hm]
        omega
      · rw [if_neg hm]
        omega
    rw [emax]
    have hm1 : a.wide ≤ max a.wide b.wide := Nat.le_max_left _ _
    have hm2 : b.wide ≤ max a.wide b.wide := Nat.le_max_right _ _
    have hml : max a.wide b.wide ≤ ns.length := Nat.max_le.mpr ⟨hwa, hwb⟩
    generalize hmx : max a.wide b.wide = m at hm1 hm2 hml ⊢
    -- whole
    refine ⟨.ref va, rfl, r, rfl, .ref va, r, a, ns, rfl, hA.keep (tk_same t5), oa, hR.keep (tk_same t5), hrow.l, fun H6 p s6 np ep => ?_⟩
    have t6 := t5.trans s6
    refine ⟨.int m, rfl, .ref va, rfl, .ref va, a, rfl, hA.keep (tk_same t6), oa, fun H7 s7 => ?_⟩
    have t7 := t6.trans s7
    refine ⟨m, a.wide, rfl, rfl, _, rfl, p, _, rfl, sqL_of (s7 _ _ ep), fun p2 np2 => ?_⟩
    rw [cut_rest (n := m - a.wide) (by omega) (by rw [paysOf_len]; omega)]
    refine ⟨p2, _, rfl, sqL_new, ?_⟩
    have t8 := t7.trans (same_new (o := .lst (((paysOf a ns).drop (m - a.wide)).map V.int)) np2)
    generalize upd H7 p2 (.lst (((paysOf a ns).drop (m - a.wide)).map V.int)) = H8 at t8 ⊢
    refine ⟨.ref vb, rfl, r, rfl, .ref vb, r, b, ns, rfl, hB.keep (tk_same t8), ob, hR.keep (tk_same t8), hrow.l, fun H9 q9 s9 nq9 eq9 => ?_⟩
    have t9 := t8.trans s9
    refine ⟨.int m, rfl, .ref vb, rfl, .ref vb, b, rfl, hB.keep (tk_same t9), ob, fun H10 s10 => ?_⟩
    have t10 := t9.trans s10
    refine ⟨m, b.wide, rfl, rfl, _, rfl, q9, _, rfl, sqL_of (s10 _ _ eq9), fun p4 np4 => ?_⟩
    rw [cut_rest (n := m - b.wide) (by omega) (by rw [paysOf_len]; omega)]
    refine ⟨p4, _, rfl, sqL_new, _, _, rfl, rfl, ?_⟩
    have t11 := t10.trans (same_new (o := .lst (((paysOf b ns).drop (m - b.wide)).map V.int)) np4)
    generalize upd H10 p4 (.lst (((paysOf b ns).drop (m - b.wide)).map V.int)) = H11 at t11 ⊢
    -- return worth(added(one, two), row_so) == whole
    refine ⟨.ref va, rfl, .ref vb, rfl, .ref va, .ref vb, a, b, rfl, hA.keep (tk_same t11), hB.keep (tk_same t11), oa, ob, op, fun H12 y2 s12 hY2 => ?_⟩
    have t12 := t11.trans s12
    refine ⟨r, rfl, y2, r, plus a b, ns, rfl, hY2, op, hR.keep (tk_same t12), hrow, by rw [wide_plus, hmx]; exact hml, fun H13 s13 => ?_⟩
    refine ⟨_, rfl, rfl, ?_⟩
    rw [sum_right hmx.symm hml]
    show Q (.bl (decide (V.int _ = V.int _))) H13
    rw [decide_eq_true rfl]
    exact q H13 (t12.trans s13)
end
end Bo
namespace Bo
open PySem PySem.Spec PyProof.Rows L2

/-! ### the state of the draws -/
def mD (l : Addr) (x y : Int) : List (Key × V) := [(.inr "cells", .ref l), (.inr "left", .int x), (.inr "spot", .int y)]
theorem v_cells (l : Addr) (x y : Int) : valV (mD l x y) (.inr "cells") = some (.ref l) := by
  unfold mD
  rw [valV_pos rfl]
theorem k_cl : ¬ ((Sum.inr ("cells" : Str) : Key) = Sum.inr ("left" : Str)) := by decide
theorem k_cs : ¬ ((Sum.inr ("cells" : Str) : Key) = Sum.inr ("spot" : Str)) := by decide
theorem k_ls : ¬ ((Sum.inr ("left" : Str) : Key) = Sum.inr ("spot" : Str)) := by decide
theorem v_left (l : Addr) (x y : Int) : valV (mD l x y) (.inr "left") = some (.int x) := by
  unfold mD
  rw [valV_neg k_cl, valV_pos rfl]
theorem v_spot (l : Addr) (x y : Int) : valV (mD l x y) (.inr "spot") = some (.int y) := by
  unfold mD
  rw [valV_neg k_cs, valV_neg k_ls, valV_pos rfl]
theorem p_left (l : Addr) (x y z : Int) : putK (mD l x y) (.inr "left") (.int z) = mD l z y := by
  have h1 : ¬ ((Sum.inr ("cells" : Str) : Key) = Sum.inr ("left" : Str)) := by decide
  have h2 : ¬ ((Sum.inr ("spot" : Str) : Key) = Sum.inr ("left" : Str)) := by decide
  unfold putK mD
  simp [h1, h2]
theorem p_spot (l : Addr) (x y z : Int) : putK (mD l x y) (.inr "spot") (.int z) = mD l x z := by
  have h1 : ¬ ((Sum.inr ("cells" : Str) : Key) = Sum.inr ("spot" : Str)) := by decide
  have h2 : ¬ ((Sum.inr ("left" : Str) : Key) = Sum.inr ("spot" : Str)) := by decide
  unfold putK mD
  simp [h1, h2]
structure MSt (H : Hp) (d l : Addr) (cs : List Int) (L : Nat) : Prop where
  at_ : ∃ x y : Int, H d = some (.dK (mD l x y)) ∧ 0 ≤ x ∧ 0 ≤ y ∧ y ≤ (L : Int)
  cl : H l = some (.lst (cs.map V.int))
  ne : 1 ≤ cs.length
  le : cs.length ≤ 1000
/-- all but d as it was -/
def DK (d : Addr) (H H' : Hp) : Prop := ∀ b o, b ≠ d → H b = some o → H' b = some o
theorem DK.refl (d : Addr) (H : Hp) : DK d H H := fun _ _ _ h => h
theorem DK.trans {d : Addr} {H1 H2 H3 : Hp} (a : DK d H1 H2) (b : DK d H2 H3) : DK d H1 H3 := fun c o hc h => b c o hc (a c o hc h)
theorem dk_same {d : Addr} {H H' : Hp} (s : Same H H') : DK d H H' := fun b o _ h => s b o h
theorem dk_at {d p : Addr} {H H' : Hp} {o : HO} (s : DK d H H') (n : H p = none) : DK d H (upd H' p o) := fun b z hb e => by
  rw [upd_ne (ne_of_none e n)]
  exact s b z hb e
theorem dk_put {d : Addr} {H : Hp} {o : HO} : DK d H (upd H d o) := fun b z hb e => by
  rw [upd_ne hb]
  exact e
section
variable {H H' : Hp} {d l : Addr} {cs : List Int} {L L' : Nat}
theorem MSt.dic (m : MSt H d l cs L) : ∃ kvs, H d = some (.dK kvs) := by
  obtain ⟨x, y, h, _⟩ := m.at_
  exact ⟨_, h⟩
theorem MSt.neq (m : MSt H d l cs L) : l ≠ d := fun e => by
  obtain ⟨kvs, h⟩ := m.dic
  have := m.cl
  rw [e, h] at this
  cases this
theorem MSt.same (m : MSt H d l cs L) (s : Same H H') : MSt H' d l cs L := by
  obtain ⟨x, y, h, r⟩ := m.at_
  exact ⟨⟨x, y, s _ _ h, r⟩, s _ _ m.cl, m.ne, m.le⟩
theorem MSt.mono (m : MSt H d l cs L) (h : L ≤ L') : MSt H d l cs L' := by
  obtain ⟨x, y, h1, h2, h3, h4⟩ := m.at_
  exact ⟨⟨x, y, h1, h2, h3, by omega⟩, m.cl, m.ne, m.le⟩
/-- a list that is neither the dict nor the cells is changed -/
theorem MSt.upd {p : Addr} {o : HO} (m : MSt H d l cs L) (h1 : p ≠ d) (h2 : p ≠ l) : MSt (upd H p o) d l cs L := by
  obtain ⟨x, y, h, r⟩ := m.at_
  exact ⟨⟨x, y, by rw [upd_ne (Ne.symm h1)]; exact h, r⟩, by rw [upd_ne (Ne.symm h2)]; exact m.cl, m.ne, m.le⟩
theorem MSt.tk (m : MSt H d l cs L) (k : DK d H H') : TK H H' := fun a xs r => by
  obtain ⟨kvs, h⟩ := m.dic
  rcases r with r | ⟨o, r⟩
  · exact .inl (k _ _ (fun z => by rw [z, h] at r; cases r) r)
  · exact .inr ⟨o, k _ _ (fun z => by rw [z, h] at r; cases r) r⟩
theorem MSt.seq {K : PySem.W.Frag} {a : Addr} {xs : List V} (m : MSt H d l cs L) (k : DK d H H') (hs : SqL K H a xs) : SqL K H' a xs := by
  obtain ⟨kvs, h⟩ := m.dic
  rcases hs with (r | ⟨o, r⟩) | r
  · exact .inl (.inl (k _ _ (fun z => by rw [z, h] at r; cases r) r))
  · exact .inl (.inr ⟨o, k _ _ (fun z => by rw [z, h] at r; cases r) r⟩)
  · exact .inr r
end

section
variable {P : Program} {w : World} {K : PySem.W.Frag} {mg : Str → Option Value} {base : Heap}

/-! ### _law_draw -/
theorem sc_law_draw : FnScope ["m", "many", "found", "spot", "cell", "mixed"] ["m", "many"] (defScope s_law_draw) := ⟨rfl, rfl, rfl, by decide +kernel, rfl, by decide +kernel, by decide +kernel⟩
def sp_law_draw : Sp := fun vs H Q _ => ∃ (d l : Addr) (cs : List Int) (L : Nat) (n : Int), vs = [.ref d, .int n] ∧ 1 ≤ n ∧ n ≤ 2000000 ∧ MSt H d l cs L ∧ L ≤ 1000000 ∧ ∀ H' (k : Int), 0 ≤ k → k < n → DK d H H' → MSt H' d l cs (L + 1) → Q (.int k) H'
theorem u_law_draw (T : Txt K mg) : Use P w K mg base 1 "_law_draw" ["m", "many"] sp_law_draw := by
  refine use_of T.d_law_draw sc_law_draw (fun _ _ _ _ _ _ us hl => match us, hl with | [_, _], _ => rfl) (fun vs H Q E h => ?_) fun f cdv A outer s H vs Q E hr h => ?_
  · obtain ⟨d, l, cs, L, n, rfl, _⟩ := h
    rfl
  · obtain ⟨d, l, cs, L, n, rfl, hn1, hn2, hM, hL, q⟩ := h
    obtain ⟨x, y, hd, hx, hy, hyL⟩ := hM.at_
    refine ⟨_, pss_cons (ps_if (pt_cmpR op_gt (pe_dget (hu_of hr) (pv 0) pe_str (fun _ _ => rfl)) pe_int (nomark _))
        (pss_cons (ps_set (i := 2) sc_law_draw.nd rfl (.inl rfl) (pe_op op_mod (pe_callTy call_int1 (by rfl) T.b_int (by decide +kernel) (pa_cons (pe_dget (hu_of hr) (pv 0) pe_str (fun _ _ => rfl)) pa_nil)) (pv 1))) <|
         pss_cons (ps_dput (hu_of hr) (pv 0) pe_str (pe_op op_fdiv (pe_dget (hu_of hr) (pv 0) pe_str (fun _ _ => rfl)) (pv 1)) rfl) <|
         pss_one (ps_ret (pv 2))) pss_nil) <|
      pss_cons (ps_set (i := 3) sc_law_draw.nd rfl (.inl rfl) (pe_op op_add (pe_dget (hu_of hr) (pv 0) pe_str (fun _ _ => rfl)) pe_int)) <|
      pss_cons (ps_dput (hu_of hr) (pv 0) pe_str (pv 3) rfl) <|
      pss_cons (ps_set (i := 4) sc_law_draw.nd rfl (.inl rfl) (pe_ix ix_list (pe_dget (hu_of hr) (pv 0) pe_str (fun _ _ => rfl)) (pe_op op_mod (pe_callTy call_int1 (by rfl) T.b_int (by decide +kernel) (pa_cons (pv 3) pa_nil)) (pe_len T.b_len (pe_dget (hu_of hr) (pv 0) pe_str (fun _ _ => rfl)))) (fun _ _ => rfl))) <|
      pss_cons (ps_set (i := 5) sc_law_draw.nd rfl (.inl rfl) (pe_op op_mul (pe_callTy call_int1 (by rfl) T.b_int (by decide +kernel) (pa_cons (pe_op op_add (pe_op op_add (pe_op op_mod (pe_callTy call_int1 (by rfl) T.b_int (by decide +kernel) (pa_cons (pv 4) pa_nil)) pe_int) (pe_op op_mul pe_int (pv 3)))
          (pe_op op_mul (pe_op op_mul pe_int (pv 3)) (pv 3))) pa_nil)) pe_int)) <|
      pss_cons (ps_set (i := 5) sc_law_draw.nd rfl (.inl rfl) (pe_op op_mul (pe_callTy call_int1 (by rfl) T.b_int (by decide +kernel) (pa_cons (pe_op op_add (pe_op op_mod (pe_callTy call_int1 (by rfl) T.b_int (by decide +kernel) (pa_cons (pv 5) pa_nil)) pe_int) (pe_op op_mul pe_int (pv 3))) pa_nil)) pe_int)) <|
      pss_one (ps_ret (pe_op op_mod (pe_callTy call_int1 (by rfl) T.b_int (by decide +kernel) (pa_cons (pe_op op_fdiv (pe_op op_mod (pe_callTy call_int1 (by rfl) T.b_int (by decide +kernel) (pa_cons (pv 5) pa_nil)) pe_int) pe_int) pa_nil)) (pv 1))), ?_⟩
    have gl : DGet H d (.str "left") (some (.int x)) := by
      have z := DGet.k (k := Sum.inr "left") hd
      rw [v_left] at z
      exact z
    have gs : DGet H d (.str "spot") (some (.int y)) := by
      have z := DGet.k (k := Sum.inr "spot") hd
      rw [v_spot] at z
      exact z
    refine ⟨.ref d, rfl, d, _, rfl, gl, x, 0, rfl, rfl, _, rfl, ite2 (fun hc => ?_) (fun hc => ?_)⟩
    · -- a digit of the great cell
      refine ⟨.ref d, rfl, d, _, rfl, gl, .inl ⟨x, rfl, .int n, rfl, x, n, rfl, rfl, by omega, ?_⟩⟩
      refine ⟨.ref d, rfl, d, _, rfl, gl, .int n, rfl, x, n, rfl, rfl, ⟨by omega, by omega⟩, .ref d, rfl, d, _, rfl, DPut.k (k := Sum.inr "left") hd (by show 3 < sizeLine; decide), ?_⟩
      rw [p_left]
      refine ⟨_, rfl, ?_⟩
      refine q _ (x % n) (Int.emod_nonneg _ (by omega)) (Int.emod_lt_of_pos _ (by omega)) dk_put ⟨⟨x / n, y, upd_same, Int.ediv_nonneg hx (by omega), hy, by omega⟩, ?_, hM.ne, hM.le⟩
      rw [upd_ne hM.neq]
      exact hM.cl
    · -- a mixed number
      refine ⟨.ref d, rfl, d, _, rfl, gs, y, 1, rfl, rfl, ?_⟩
      refine ⟨_, rfl, .ref d, rfl, d, _, rfl, DPut.k (k := Sum.inr "spot") hd (by show 3 < sizeLine; decide), ?_⟩
      rw [p_spot]
      have hd1 : (upd H d (.dK (mD l x (y + 1)))) d = some (.dK (mD l x (y + 1))) := upd_same
      have hM1 : MSt (upd H d (.dK (mD l x (y + 1)))) d l cs (L + 1) := ⟨⟨x, y + 1, upd_same, hx, by omega, by omega⟩, by rw [upd_ne hM.neq]; exact hM.cl, hM.ne, hM.le⟩
      have k1 : DK d H (upd H d (.dK (mD l x (y + 1)))) := dk_put
      generalize upd H d (.dK (mD l x (y + 1))) = H1 at hd1 hM1 k1 ⊢
      have gc : DGet H1 d (.str "cells") (some (.ref l)) := by
        have z := DGet.k (k := Sum.inr "cells") hd1
        rw [v_cells] at z
        exact z
      have hne := hM.ne
      have hle := hM.le
      have hlp : (0 : Int) < (((cs.map V.int).length : Nat) : Int) := by
        rw [List.length_map]
        omega
      have e1 := Int.emod_nonneg (y + 1) (b := (((cs.map V.int).length : Nat) : Int)) (by omega)
      have e2 := Int.emod_lt_of_pos (y + 1) hlp
      obtain ⟨j, hj⟩ : ∃ j : Nat, (y + 1) % (((cs.map V.int).length : Nat) : Int) = (j : Int) := ⟨((y + 1) % (((cs.map V.int).length : Nat) : Int)).toNat, by omega⟩
      have hjl : j < cs.length := by
        rw [List.length_map] at hj e2
        omega
      have hcj : (cs.map V.int)[j]? = some (.int cs[j]) := by
        rw [List.getElem?_map, List.getElem?_eq_getElem hjl]
        rfl
      refine ⟨.ref d, rfl, d, _, rfl, gc, .int (y + 1), rfl, .inl ⟨y + 1, rfl, .ref d, rfl, d, _, rfl, gc, l, _, rfl, .inl (sqL_of hM1.cl), y + 1, _, rfl, rfl, hlp, ?_⟩⟩
      show rIxL K (.ref l) (.int ((y + 1) % (((cs.map V.int).length : Nat) : Int))) H1 _
      rw [hj]
      refine ⟨l, _, j, .int cs[j], rfl, rfl, sqL_of hM1.cl, atI_nat hcj, ?_⟩
      generalize cs[j] = c
      refine ⟨.int c, rfl, .inl ⟨c, rfl, c, 2147483629, rfl, rfl, (by show (0 : Int) < 2147483629; decide), .int (y + 1), rfl, 6133, y + 1, rfl, rfl, .inl ⟨by decide, by decide⟩, _, _, rfl, rfl, .int (y + 1), rfl, 23, y + 1, rfl, rfl, .inl ⟨by decide, by decide⟩,
        .int (y + 1), rfl, 23 * (y + 1), y + 1, rfl, rfl, .inl ⟨by omega, by omega⟩, _, _, rfl, rfl, .inl ⟨_, rfl, _, 48271, rfl, rfl, .inr ⟨by decide, by decide⟩, ?_⟩⟩⟩
      refine ⟨_, rfl, .inl ⟨_, rfl, _, 2147483647, rfl, rfl, (by show (0 : Int) < 2147483647; decide), .int (y + 1), rfl, 93241, y + 1, rfl, rfl, .inl ⟨by decide, by decide⟩, _, _, rfl, rfl, .inl ⟨_, rfl, _, 69621, rfl, rfl, .inr ⟨by decide, by decide⟩, ?_⟩⟩⟩
      refine ⟨_, rfl, .inl ⟨_, rfl, _, 2147483587, rfl, rfl, (by show (0 : Int) < 2147483587; decide), _, 13, rfl, rfl, ⟨by decide, by decide⟩, .inl ⟨_, rfl, .int n, rfl, _, n, rfl, rfl, (by show (0 : Int) < n; omega), ?_⟩⟩⟩
      exact q H1 _ (Int.emod_nonneg _ (by omega)) (Int.emod_lt_of_pos _ (by omega)) k1 hM1
end
end Bo
namespace Bo
open PySem PySem.Spec PyProof.Rows L2
theorem m_mD (l : Addr) (x y : Int) : mergeK [] (mD l x y) = mD l x y := by
  have h1 := k_cl
  have h2 := k_cs
  have h3 := k_ls
  unfold mergeK mD
  simp [putK, h1, h2, h3]
theorem canLay_ints : ∀ ns : List Int, PyData.canLayAll0 (ns.map PyData.int) = true
  | [] => by simp only [List.map_nil, PyData.canLayAll0]
  | i :: r => by simp only [List.map_cons, PyData.canLayAll0, PyData.canLay0, canLay_ints r, Bool.and_self]
theorem depth_ints : ∀ ns : List Int, PyData.depthAll (ns.map PyData.int) = 0
  | [] => by simp only [List.map_nil, PyData.depthAll]
  | i :: r => by simp only [List.map_cons, PyData.depthAll, PyData.depth, depth_ints r, Nat.max_self]
theorem shaped_ints (ns : List Int) : SeqAt.shaped (.list (ns.map PyData.int)) = true := by
  unfold SeqAt.shaped
  simp only [PyData.canLay0, PyData.depth, canLay_ints, depth_ints, Bool.true_and]
  decide
section
variable {P : Program} {w : World} {K : PySem.W.Frag} {mg : Str → Option Value} {base : Heap}

/-! ### _law_begun -/
theorem sc_law_begun : FnScope ["script", "great", "cell"] ["script"] (defScope s_law_begun) := ⟨rfl, rfl, rfl, by decide +kernel, rfl, by decide +kernel, by decide +kernel⟩
def sp_law_begun (K : PySem.W.Frag) : Sp := fun vs H Q _ => ∃ (a : Addr) (ns : List Int), vs = [.ref a] ∧ SqL K H a (ns.map V.int) ∧ ns.length ≤ 63 ∧ ∀ H' d l, Same H H' → MSt H' d l (ns ++ [(ns.length : Int)]) 0 → Q (.ref d) H'
theorem u_law_begun (T : Txt K mg) : Use P w K mg base 1 "_law_begun" ["script"] (sp_law_begun K) := by
  refine use_of T.d_law_begun sc_law_begun (fun _ _ _ _ _ _ us hl => match us, hl with | [_], _ => rfl) (fun vs H Q E h => ?_) fun f cdv A outer s H vs Q E hr h => ?_
  · obtain ⟨a, ns, rfl, _⟩ := h
    rfl
  · obtain ⟨a, ns, rfl, hS, hl, q⟩ := h
    refine ⟨_, pss_cons (ps_setLc (i := 1) (own := [("cell", 2)]) (g := gName 2) rfl sc_law_begun.nd rfl rfl (sw_true rfl rfl rfl (by decide +kernel)) (pi_list (pv 0))
          (blkOk_by (own := [("cell", 2)]) (N := ["script", "great", "cell"]) (sc := defScope s_law_begun) (by decide +kernel))
          (fun _ _ _ _ _ => pg_name (i := 2) sc_law_begun.nd rfl (.inl rfl)) (fun _ _ _ _ _ => pts_one (pt_cmpR op_ge (pv 2) (pe_op op_pow pe_int pe_int) (nomark _))) (fun _ _ _ _ _ => pv 2)) <|
      pss_one (ps_ret (pe_disp (pps_cons pe_str (pe_op op_cat (pe_callTy call_list_of (by rfl) T.b_list (by decide +kernel) (pa_cons (pv 0) pa_nil)) (pe_lst (pa_cons (pe_len T.b_len (pv 0)) pa_nil)))
        (pps_cons pe_str (pe_ifExp (pt_cmpR (op_neD hr.units) (pv 1) (pe_lst pa_nil) (nomark _)) (pe_ix ix_list (pv 1) pe_int (fun _ _ => rfl)) pe_int)
        (pps_cons pe_str pe_int pps_nil))) (by rfl) (by rfl) (fun z => by cases z) (by decide))), ?_⟩
    refine ⟨.ref a, rfl, a, rfl, ⟨_, hS⟩, fun D nD => ?_⟩
    refine lc_it (walk_list (xs := ns.map V.int)) (fun i H' => Same H H' ∧ ∃ gs : List Int, H' D = some (.lst (gs.map V.int)) ∧ (∀ g ∈ gs, 0 ≤ g) ∧ gs.length ≤ i) ⟨same_new nD, [], upd_same, (by intro g hg; cases hg), Nat.le_refl _⟩
      (fun i H' _ h => h.1.seq hS) (fun i x H1 H2 hlt h hy => ?_) (fun H' h => ?_)
    · obtain ⟨sm, gs, eD, hg, hgl⟩ := h
      obtain ⟨rfl, hx⟩ := hy
      obtain ⟨n, hn, rfl⟩ := int_at hx
      rw [List.length_map] at hlt
      refine ⟨rfl, .int n, rfl, 10, 18, rfl, rfl, ⟨by decide, by decide, by decide⟩, n, _, rfl, rfl, _, rfl, ite2 (fun hc => ?_) (fun hc => ?_)⟩
      · have hc2 := of_decide_eq_true hc
        have h0 : (0 : Int) ≤ n := Int.le_trans (by decide) hc2
        refine ⟨.int n, rfl, _, eD, ?_, same_at sm nD, gs ++ [n], ?_, fun g hgm => ?_, ?_⟩
        · rw [List.length_map]
          exact small1000 (by omega)
        · rw [upd_same, List.map_append]
          rfl
        · rcases List.mem_append.mp hgm with m | m
          · exact hg g m
          · rw [List.mem_singleton.mp m]
            exact h0
        · rw [List.length_append, List.length_singleton]
          omega
      · exact ⟨sm, gs, eD, hg, Nat.le_succ_of_le hgl⟩
    · obtain ⟨sm, gs, eD, hg, hgl⟩ := h
      intro p np
      have npH := sm.free np
      have s1 : Same H' (upd H' p (.dK [])) := same_new np
      have ep : (upd H' p (.dK [])) p = some (.dK []) := upd_same
      have t1 := sm.trans s1
      have eD1 := s1 _ _ eD
      generalize upd H' p (.dK []) = H2 at s1 ep t1 eD1 ⊢
      refine ⟨.ref a, rfl, a, _, rfl, .inl (t1.seq hS), fun l nl => ?_⟩
      have s2 : Same H2 (upd H2 l (.lst (ns.map V.int))) := same_new nl
      have el : (upd H2 l (.lst (ns.map V.int))) l = some (.lst (ns.map V.int)) := upd_same
      generalize upd H2 l (.lst (ns.map V.int)) = H3 at s2 el ⊢
      have t2 := t1.trans s2
      refine ⟨.ref a, rfl, a, _, rfl, .inl (t2.seq hS), by show 1 ≤ sizeLine; decide, fun l2 nl2 => ?_⟩
      have s3 : Same H3 (upd H3 l2 (.lst [.int (((ns.map V.int).length : Nat) : Int)])) := same_new nl2
      have el2 : (upd H3 l2 (.lst [.int (((ns.map V.int).length : Nat) : Int)])) l2 = some (.lst [.int (((ns.map V.int).length : Nat) : Int)]) := upd_same
      generalize upd H3 l2 (.lst [.int (((ns.map V.int).length : Nat) : Int)]) = H4 at s3 el2 ⊢
      refine ⟨l, l2, _, _, rfl, rfl, s3 _ _ el, el2, ?_, fun l3 nl3 => ?_⟩
      · rw [List.length_map, sizeLine_eq]
        show ns.length + 1 ≤ _
        omega
      have s4 : Same H4 (upd H4 l3 (.lst (ns.map V.int ++ [.int (((ns.map V.int).length : Nat) : Int)]))) := same_new nl3
      have el3 : (upd H4 l3 (.lst (ns.map V.int ++ [.int (((ns.map V.int).length : Nat) : Int)]))) l3 = some (.lst (ns.map V.int ++ [.int (((ns.map V.int).length : Nat) : Int)])) := upd_same
      generalize upd H4 l3 (.lst (ns.map V.int ++ [.int (((ns.map V.int).length : Nat) : Int)])) = H5 at s4 el3 ⊢
      have s25 := s2.trans (s3.trans s4)
      refine ⟨.ref D, rfl, Nat.zero_le _, fun o no => ?_⟩
      have s6 : Same H5 (upd H5 o (.lst [])) := same_new no
      have eo : (upd H5 o (.lst [])) o = some (.lst []) := upd_same
      generalize upd H5 o (.lst []) = H6 at s6 eo ⊢
      have s26 := s25.trans s6
      have eD6 := s26 _ _ eD1
      have hp3 : p ≠ l3 := ne_of_none (s2.trans s3 |>.trans (Same.refl _) |> fun z => z _ _ ep) nl3
      -- what is left of a great one is not negative; the rest is the same either way
      have fin : ∀ x : Int, 0 ≤ x → H6 p = some (.dK []) ∧ ∃ kvs : List (Key × V), [(V.str "cells", V.ref l3), (V.str "left", V.int x), (V.str "spot", V.int 0)] = kvs.map (fun kv => (kV kv.1, kv.2)) ∧ kvs.length ≤ 15 ∧ Q (.ref p) (upd H6 p (.dK (mergeK [] kvs))) := fun x hx => by
        refine ⟨s26 _ _ ep, mD l3 x 0, rfl, by show 3 ≤ 15; decide, ?_⟩
        rw [m_mD]
        refine q _ p l3 (same_at (t1.trans s26) npH) ⟨⟨x, 0, upd_same, hx, by decide, by decide⟩, ?_, ?_, ?_⟩
        · rw [upd_ne (Ne.symm hp3), List.map_append]
          have := s6 _ _ el3
          rw [List.length_map] at this
          exact this
        · rw [List.length_append, List.length_singleton]
          omega
        · rw [List.length_append, List.length_singleton]
          omega
      refine ⟨.list (gs.map PyData.int), .list [], .lst (sqL_of eD6) (dp_ints gs), .lst (sqL_of eo) .nil, shaped_ints gs, by decide, _, rfl, ite2 (fun hc => ?_) (fun hc => ?_)⟩
      · cases gs with
        | nil =>
          exfalso
          rw [List.map_nil, eqv_nil] at hc
          cases hc
        | cons g r =>
          refine ⟨.ref D, rfl, D, _, 0, .int g, rfl, rfl, sqL_of eD6, atI_nat (j := 0) rfl, ?_⟩
          exact fin g (hg g (List.mem_cons_self ..))
      · exact fin 0 (Int.le_refl _)

/-! ### _law_of -/
theorem sc_law_of : FnScope ["m", "some"] ["m", "some"] (defScope s_law_of) := ⟨rfl, rfl, rfl, by decide +kernel, rfl, by decide +kernel, by decide +kernel⟩
def sp_law_of (K : PySem.W.Frag) : Sp := fun vs H Q _ => ∃ (d l p : Addr) (cs : List Int) (L : Nat) (xs : List V), vs = [.ref d, .ref p] ∧ SqL K H p xs ∧ 1 ≤ xs.length ∧ xs.length ≤ 1000 ∧ MSt H d l cs L ∧ L ≤ 1000000 ∧ ∀ H' x, x ∈ xs → DK d H H' → MSt H' d l cs (L + 1) → Q x H'
theorem u_law_of (T : Txt K mg) : Use P w K mg base 2 "_law_of" ["m", "some"] (sp_law_of K) := by
  have U1 : Use P w K mg base 1 "_law_draw" ["m", "many"] sp_law_draw := u_law_draw T
  refine use_of T.d_law_of sc_law_of (fun _ _ _ _ _ _ us hl => match us, hl with | [_, _], _ => rfl) (fun vs H Q E h => ?_) fun f cdv A outer s H vs Q E hr h => ?_
  · obtain ⟨d, l, p, cs, L, xs, rfl, _⟩ := h
    rfl
  · obtain ⟨d, l, p, cs, L, xs, rfl, hS, h1, h2, hM, hL, q⟩ := h
    refine ⟨_, pss_one (ps_ret (pe_ix ix_list (pv 1) (pe_use U1 hr (pa_cons (pv 0) (pa_cons (pe_len T.b_len (pv 1)) pa_nil))) (fun _ _ => rfl))), ?_⟩
    refine ⟨.ref p, rfl, .ref d, rfl, .ref p, rfl, p, _, rfl, .inl hS, d, l, cs, L, _, rfl, by omega, by omega, hM, hL, fun H' k k0 k1 kd hM' => ?_⟩
    obtain ⟨j, rfl⟩ : ∃ j : Nat, k = (j : Int) := ⟨k.toNat, by omega⟩
    have hj : j < xs.length := by omega
    exact ⟨p, xs, j, xs[j], rfl, rfl, hM.seq kd hS, atI_nat (List.getElem?_eq_getElem hj), q H' _ (List.getElem_mem hj) kd hM'⟩
end
end Bo
namespace Bo
open PySem PySem.Spec PyProof.Rows L2
theorem ne_d {H : Hp} {p d l : Addr} {cs : List Int} {L : Nat} (m : MSt H d l cs L) (n : H p = none) : p ≠ d ∧ p ≠ l := by
  obtain ⟨kvs, h⟩ := m.dic
  refine ⟨fun e => ?_, fun e => ?_⟩
  · rw [e, h] at n
    cases n
  · rw [e, m.cl] at n
    cases n
section
variable {P : Program} {w : World} {K : PySem.W.Frag} {mg : Str → Option Value} {base : Heap}

/-! ### _law_weights -/
theorem sc_law_weights : FnScope ["m", "most", "wide", "some", "k"] ["m", "most"] (defScope s_law_weights) := ⟨rfl, rfl, rfl, by decide +kernel, rfl, by decide +kernel, by decide +kernel⟩
def sp_law_weights : Sp := fun vs H Q _ => ∃ (d l : Addr) (cs : List Int) (L n : Nat), vs = [.ref d, .int n] ∧ 1 ≤ n ∧ n ≤ 6 ∧ MSt H d l cs L ∧ L + 10 ≤ 1000000 ∧
  ∀ H' p (ws : List Int), DK d H H' → MSt H' d l cs (L + 10) → H' p = some (.tup (ws.map V.int)) → 1 ≤ ws.length → ws.length ≤ n → (∀ x ∈ ws, -20 ≤ x ∧ x ≤ 20) → Q (.ref p) H'
theorem u_law_weights (T : Txt K mg) : Use P w K mg base 2 "_law_weights" ["m", "most"] sp_law_weights := by
  have U1 : Use P w K mg base 1 "_law_draw" ["m", "many"] sp_law_draw := u_law_draw T
  refine use_of T.d_law_weights sc_law_weights (fun _ _ _ _ _ _ us hl => match us, hl with | [_, _], _ => rfl) (fun vs H Q E h => ?_) fun f cdv A outer s H vs Q E hr h => ?_
  · obtain ⟨d, l, cs, L, n, rfl, _⟩ := h
    rfl
  · obtain ⟨d, l, cs, L, n, rfl, hn1, hn6, hM, hL, q⟩ := h
    refine ⟨_, pss_cons (ps_set (i := 2) sc_law_weights.nd rfl (Or.inr rfl) (pe_use U1 hr (pa_cons (pv 0) (pa_cons pe_int pa_nil)))) <|
      pss_cons (ps_setLc (i := 3) (own := [("k", 4)]) (g := gName 4) rfl sc_law_weights.nd rfl rfl (sw_true rfl rfl rfl (by decide +kernel)) (pi_range1 (by rfl) T.b_range (pa_cons (pe_op op_add pe_int (pe_use U1 hr (pa_cons (pv 0) (pa_cons (pv 1) pa_nil)))) pa_nil))
          (blkOk_by (own := [("k", 4)]) (N := ["m", "most", "wide", "some", "k"]) (sc := defScope s_law_weights) (by decide +kernel))
          (fun _ _ _ _ _ => pg_name (i := 4) sc_law_weights.nd rfl (.inl rfl)) (fun _ _ _ _ _ => pts_nil)
          (fun _ _ _ _ _ => pe_ifExp (pt_cmpR op_eq (pv 2) pe_int (nomark _)) (pe_op op_sub (pe_use U1 hr (pa_cons (pv 0) (pa_cons pe_int pa_nil))) pe_int) (pe_use U1 hr (pa_cons (pv 0) (pa_cons pe_int pa_nil))))) <|
      pss_one (ps_ret (pe_callTy call_tuple_of (by rfl) T.b_tuple (by decide +kernel) (pa_cons (pv 3) pa_nil))), ?_⟩
    refine ⟨.ref d, rfl, d, l, cs, L, 2, rfl, by decide, by decide, hM, by omega, fun H1 kw _ _ d1 hM1 => ?_⟩
    refine ⟨.ref d, rfl, .int n, rfl, d, l, cs, L + 1, n, rfl, by omega, by omega, hM1, by omega, fun H2 k2 k20 k2n d2 hM2 => ?_⟩
    refine ⟨1, k2, rfl, rfl, _, rfl, by omega, by omega, fun D nD => ?_⟩
    have d12 := d1.trans d2
    obtain ⟨nDd, nDl⟩ := ne_d hM2 nD
    refine lc_it walk_range (fun i H' => DK d H2 H' ∧ MSt H' d l cs (L + 2 + i) ∧ ∃ ws : List Int, H' D = some (.lst (ws.map V.int)) ∧ ws.length = i ∧ ∀ x ∈ ws, -20 ≤ x ∧ x ≤ 20) ⟨dk_same (same_new nD), hM2.upd nDd nDl, [], upd_same, rfl, (by intro g hg; cases hg)⟩
      (fun i H' _ h => trivial) (fun i x H3 H4 hlt h hy => ?_) (fun H' h => ?_)
    · obtain ⟨dk, hM3, ws, eD, hwl, hwb⟩ := h
      obtain ⟨rfl, rfl⟩ := hy
      have step : ∀ (H5 : Hp) (z : Int), DK d H4 H5 → MSt H5 d l cs (L + 2 + i + 1) → -20 ≤ z → z ≤ 20 → ∃ acc, H5 D = some (.lst acc) ∧ acc.length < sizeLine ∧ DK d H2 (upd H5 D (.lst (acc ++ [V.int z]))) ∧ MSt (upd H5 D (.lst (acc ++ [V.int z]))) d l cs (L + 2 + (i + 1)) ∧
          ∃ ws : List Int, (upd H5 D (.lst (acc ++ [V.int z]))) D = some (.lst (ws.map V.int)) ∧ ws.length = i + 1 ∧ ∀ x ∈ ws, -20 ≤ x ∧ x ≤ 20 := fun H5 z k5 hM5 z1 z2 => by
        refine ⟨ws.map V.int, k5 _ _ nDd eD, ?_, dk_at (dk.trans k5) nD, hM5.upd nDd nDl, ws ++ [z], ?_, ?_, fun y hy => ?_⟩
        · rw [List.length_map]
          exact small1000 (by omega)
        · rw [upd_same, List.map_append]
          rfl
        · rw [List.length_append, List.length_singleton, hwl]
        · rcases List.mem_append.mp hy with m | m
          · exact hwb y m
          · rw [List.mem_singleton.mp m]
            exact ⟨z1, z2⟩
      refine ⟨rfl, yes (iteT ?_)⟩
      refine ⟨.int kw, rfl, rfl, _, rfl, ite2 (fun _ => ?_) (fun _ => ?_)⟩
      · refine ⟨.ref d, rfl, d, l, cs, L + 2 + i, 41, rfl, by decide, by decide, hM3, by omega, fun H5 k k0 k1 kd hM5 => ?_⟩
        exact ⟨k, 20, rfl, rfl, step H5 (k - 20) kd hM5 (by omega) (by omega)⟩
      · refine ⟨.ref d, rfl, d, l, cs, L + 2 + i, 4, rfl, by decide, by decide, hM3, by omega, fun H5 k k0 k1 kd hM5 => ?_⟩
        exact step H5 k kd hM5 (by omega) (by omega)
    · obtain ⟨dk, hM3, ws, eD, hwl, hwb⟩ := h
      refine ⟨.ref D, rfl, D, _, rfl, .inl ⟨sqL_of eD, fun p np => ?_⟩⟩
      obtain ⟨npd, npl⟩ := ne_d hM3 np
      exact q _ p ws (d12.trans (dk.trans (dk_same (same_new np)))) ((hM3.upd npd npl).mono (by omega)) upd_same (by omega) (by omega) hwb

/-! ### _law_drawn_bill -/
theorem sc_law_drawn_bill : FnScope ["m", "most", "own", "terms", "k"] ["m", "most"] (defScope s_law_drawn_bill) := ⟨rfl, rfl, rfl, by decide +kernel, rfl, by decide +kernel, by decide +kernel⟩
def sp_law_drawn_bill (K : PySem.W.Frag) : Sp := fun vs H Q _ => ∃ (d l : Addr) (cs : List Int) (L n : Nat), vs = [.ref d, .int n] ∧ 1 ≤ n ∧ n ≤ 6 ∧ MSt H d l cs L ∧ L + 40 ≤ 1000000 ∧
  ∀ H' v (b : Bl), DK d H H' → MSt H' d l cs (L + 40) → BillAt K H' v b → b.Ok → Q v H'
theorem u_law_drawn_bill (T : Txt K mg) : Use P w K mg base 3 "_law_drawn_bill" ["m", "most"] (sp_law_drawn_bill K) := by
  have U1 : Use P w K mg base 1 "_law_draw" ["m", "many"] sp_law_draw := u_law_draw T
  have U2 : Use P w K mg base 2 "_law_of" ["m", "some"] (sp_law_of K) := u_law_of T
  have U3 : Use P w K mg base 2 "_law_weights" ["m", "most"] sp_law_weights := u_law_weights T
  refine use_of T.d_law_drawn_bill sc_law_drawn_bill (fun _ _ _ _ _ _ us hl => match us, hl with | [_, _], _ => rfl) (fun vs H Q E h => ?_) fun f cdv A outer s H vs Q E hr h => ?_
  · obtain ⟨d, l, cs, L, n, rfl, _⟩ := h
    rfl
  · obtain ⟨d, l, cs, L, n, rfl, hn1, hn6, hM, hL, q⟩ := h
    refine ⟨_, pss_cons (ps_par (i := 2) (j := 3) (by rfl) sc_law_drawn_bill.nd rfl rfl (by decide) rfl rfl (pa_cons (pe_use U2 hr (pa_cons (pv 0) (pa_cons
          (pe_lst (pa_cons pe_int (pa_cons pe_int (pa_cons pe_int (pa_cons (pe_un un_neg pe_int) (pa_cons (pe_op op_sub (pe_use U1 hr (pa_cons (pv 0) (pa_cons pe_int pa_nil))) pe_int) pa_nil)))))) pa_nil))) (pa_cons (pe_lst pa_nil) pa_nil)) (by rfl)) <|
      pss_cons (ps_for PassesOwn.never rfl (pi_range1 (by rfl) T.b_range (pa_cons (pe_use U1 hr (pa_cons (pv 0) (pa_cons pe_int pa_nil))) pa_nil)) (pg_name (i := 4) sc_law_drawn_bill.nd rfl (.inl rfl)) <|
        pss_one (ps_expr (pe_bm PySem.F.plainAttrs_list PySem.F.slot_list_append PySem.F.type_list_append mt_append (pv 3) (pa_cons (pe_tup (pa_cons (pe_use U3 hr (pa_cons (pv 0) (pa_cons (pv 1) pa_nil)))
          (pa_cons (pe_op op_sub (pe_use U1 hr (pa_cons (pv 0) (pa_cons pe_int pa_nil))) pe_int) (pa_cons (pe_op op_sub (pe_use U1 hr (pa_cons (pv 0) (pa_cons pe_int pa_nil))) pe_int) pa_nil)))) pa_nil)))) <|
      pss_one (ps_ret (pe_tup (pa_cons (pv 2) (pa_cons (pe_callTy call_tuple_of (by rfl) T.b_tuple (by decide +kernel) (pa_cons (pv 3) pa_nil)) pa_nil)))), ?_⟩
    refine ⟨.ref d, rfl, 1, rfl, .ref d, rfl, d, l, cs, L, 101, rfl, by decide, by decide, hM, by omega, fun H1 k k0 k1 d1 hM1 => ?_⟩
    refine ⟨k, 50, rfl, rfl, by show 5 ≤ sizeLine; decide, fun o no => ?_⟩
    obtain ⟨nod, nol⟩ := ne_d hM1 no
    have hMo : MSt (upd H1 o (.lst [.int 0, .int 1, .int 2, .int (-1), .int (k - 50)])) d l cs (L + 1) := hM1.upd nod nol
    have d1o : DK d H (upd H1 o (.lst [.int 0, .int 1, .int 2, .int (-1), .int (k - 50)])) := d1.trans (dk_same (same_new no))
    refine ⟨d, l, o, cs, L + 1, _, rfl, sqL_new, by show 1 ≤ 5; decide, by show 5 ≤ 1000; decide, hMo, by omega, fun H2 x hx d2 hM2 => ?_⟩
    have d02 := d1o.trans d2
    obtain ⟨own, rfl, ho1, ho2⟩ : ∃ own : Int, x = V.int own ∧ -50 ≤ own ∧ own ≤ 50 := by
      simp only [List.mem_cons, List.not_mem_nil, or_false] at hx
      rcases hx with e | e | e | e | e <;> exact ⟨_, e, by omega, by omega⟩
    refine ⟨Nat.zero_le _, fun p np => ?_⟩
    obtain ⟨npd, npl⟩ := ne_d hM2 np
    have hM3 : MSt (upd H2 p (.lst [])) d l cs (L + 2) := hM2.upd npd npl
    have d03 : DK d H (upd H2 p (.lst [])) := d02.trans (dk_same (same_new np))
    have ep : (upd H2 p (.lst [])) p = some (.lst []) := upd_same
    have npH : H p = none := by
      cases e : H p with
      | none => rfl
      | some u => rw [d02 _ _ npd e] at np; cases np
    generalize upd H2 p (.lst []) = H3 at hM3 d03 ep ⊢
    refine ⟨_, _, rfl, ?_⟩
    refine ⟨.ref d, rfl, d, l, cs, L + 2, 3, rfl, by decide, by decide, hM3, by omega, fun H4 k3 k30 k33 d4 hM4 => ?_⟩
    refine ⟨k3, rfl, by omega, by omega, ?_⟩
    refine for_it walk_range (fun i σ H' => ∃ y4 ts ls, σ = [some (.ref d), some (.int n), some (.int own), some (.ref p), y4] ∧ DK d H H' ∧ MSt H' d l cs (L + 3 + 12 * i) ∧ H' p = some (.lst ts) ∧ Paired (TermAt K H') ts ls ∧ ls.length = i ∧ ∀ t ∈ ls, t.Ok)
      ⟨none, [], [], rfl, d03.trans d4, hM4, d4 _ _ npd ep, .nil, rfl, (by intro t ht; cases ht)⟩ (fun i σ H' _ h => trivial) (fun i x H5' H5 H6 hlt h hy => ?_) (fun σ H' h => ?_)
    · obtain ⟨y4, ts, ls, rfl, dk, hM5, eP, hP, hll, hok⟩ := h
      obtain ⟨rfl, rfl⟩ := hy
      have hi : i < 2 := by omega
      refine ⟨.ref p, rfl, .inl ⟨rfl, _, sqL_of eP⟩, .ref d, rfl, .int n, rfl, d, l, cs, L + 3 + 12 * i, n, rfl, hn1, hn6, hM5, by omega, fun H7 c ws d7 hM7 ec w1 wn wb => ?_⟩
      refine ⟨.ref d, rfl, d, l, cs, L + 3 + 12 * i + 10, 7, rfl, by decide, by decide, hM7, by omega, fun H8 ka ka0 ka1 d8 hM8 => ?_⟩
      refine ⟨ka, 3, rfl, rfl, .ref d, rfl, d, l, cs, L + 3 + 12 * i + 10 + 1, 7, rfl, by decide, by decide, hM8, by omega, fun H9 kb kb0 kb1 d9 hM9 => ?_⟩
      refine ⟨kb, 3, rfl, rfl, by show 3 ≤ sizeLine; decide, fun t nt => ?_⟩
      have ecd : c ≠ d := fun e => by
        obtain ⟨kvs, hk⟩ := hM7.dic
        rw [e, hk] at ec
        cases ec
      have ec9 : H9 c = some (.tup (ws.map V.int)) := d9 _ _ ecd (d8 _ _ ecd ec)
      have d79 := d7.trans (d8.trans d9)
      obtain ⟨ntd, ntl⟩ := ne_d hM9 nt
      have s10 : Same H9 (upd H9 t (.tup [.ref c, .int (ka - 3), .int (kb - 3)])) := same_new nt
      have eP10 := s10 _ _ (d79 _ _ npd eP)
      refine ⟨p, _, _, rfl, rfl, eP10, ?_, ?_⟩
      · rw [hP.length, hll]
        exact small1000 (by omega)
      · have k1 : TK H6 (upd H9 t (.tup [.ref c, .int (ka - 3), .int (kb - 3)])) := (hM5.tk d79).trans (tk_same s10)
        have k2 : TK (upd H9 t (.tup [.ref c, .int (ka - 3), .int (kb - 3)])) (upd (upd H9 t (.tup [.ref c, .int (ka - 3), .int (kb - 3)])) p (.lst (ts ++ [.ref t]))) := tk_lst eP10
        have hT : TermAt K (upd H9 t (.tup [.ref c, .int (ka - 3), .int (kb - 3)])) (.ref t) ⟨ws, ka - 3, kb - 3⟩ := ⟨t, .ref c, rfl, sqT_new, c, rfl, (tk_same s10).tup (sqT_of ec9)⟩
        refine ⟨some (.int (0 + (i : Int))), ts ++ [.ref t], ls ++ [⟨ws, ka - 3, kb - 3⟩], rfl, dk_at (dk.trans (d79.trans (dk_same s10))) npH, ((hM9.upd ntd ntl).upd npd npl).mono (by omega), upd_same, ?_, ?_, fun y hy => ?_⟩
        · exact paired_append (terms_keep hP (k1.trans k2)) (.cons (hT.keep k2) .nil)
        · rw [List.length_append, List.length_singleton, hll]
        · rcases List.mem_append.mp hy with m | m
          · exact hok y m
          · rw [List.mem_singleton.mp m]
            exact ⟨w1, Nat.le_trans wn hn6, wb, ⟨by show -50 ≤ ka - 3; omega, by show ka - 3 ≤ 50; omega⟩, by show -50 ≤ kb - 3; omega, by show kb - 3 ≤ 50; omega⟩
    · obtain ⟨y4, ts, ls, rfl, dk, hM5, eP, hP, hll, hok⟩ := h
      refine ⟨_, rfl, .ref p, rfl, p, _, rfl, .inl ⟨sqL_of eP, fun c nc => ?_⟩⟩
      obtain ⟨ncd, ncl⟩ := ne_d hM5 nc
      have s6 : Same H' (upd H' c (.tup ts)) := same_new nc
      have hM6 := hM5.upd (o := .tup ts) ncd ncl
      have hc : SqT K (upd H' c (.tup ts)) c ts := sqT_new
      generalize upd H' c (.tup ts) = H6 at s6 hM6 hc ⊢
      refine ⟨by show 2 ≤ sizeLine; decide, fun z nz => ?_⟩
      obtain ⟨nzd, nzl⟩ := ne_d hM6 nz
      have s7 : Same H6 (upd H6 z (.tup [.int own, .ref c])) := same_new nz
      refine q _ _ ⟨own, ls⟩ (dk.trans (dk_same (s6.trans s7))) ((hM6.upd nzd nzl).mono (by omega)) ⟨z, c, ts, rfl, sqT_new, (tk_same s7).tup hc, terms_keep hP (tk_same (s6.trans s7))⟩ ⟨⟨ho1, ho2⟩, ?_, hok⟩
      show ls.length ≤ 2
      omega

/-! ### _law_drawn_row -/
theorem sc_law_drawn_row : FnScope ["m", "least", "more", "high", "k"] ["m", "least", "more", "high"] (defScope s_law_drawn_row) := ⟨rfl, rfl, rfl, by decide +kernel, rfl, by decide +kernel, by decide +kernel⟩
def sp_law_drawn_row : Sp := fun vs H Q _ => ∃ (d l : Addr) (cs : List Int) (L : Nat) (z : Int), vs = [.ref d, .int 6, .int 24, .int z] ∧ 0 ≤ z ∧ z ≤ 1000000 ∧ MSt H d l cs L ∧ L + 40 ≤ 1000000 ∧
  ∀ H' p (ns : List Int), DK d H H' → MSt H' d l cs (L + 40) → H' p = some (.tup (ns.map V.int)) → 6 ≤ ns.length → ns.length ≤ 30 → (∀ x ∈ ns, 0 ≤ x ∧ x ≤ 1000000) → Q (.ref p) H'
theorem u_law_drawn_row (T : Txt K mg) : Use P w K mg base 2 "_law_drawn_row" ["m", "least", "more", "high"] sp_law_drawn_row := by
  have U1 : Use P w K mg base 1 "_law_draw" ["m", "many"] sp_law_draw := u_law_draw T
  refine use_of T.d_law_drawn_row sc_law_drawn_row (fun _ _ _ _ _ _ us hl => match us, hl with | [_, _, _, _], _ => rfl) (fun vs H Q E h => ?_) fun f cdv A outer s H vs Q E hr h => ?_
  · obtain ⟨d, l, cs, L, z, rfl, _⟩ := h
    rfl
  · obtain ⟨d, l, cs, L, z, rfl, hz0, hz1, hM, hL, q⟩ := h
    refine ⟨_, pss_one (ps_ret (pe_callTy call_tuple_of (by rfl) T.b_tuple (by decide +kernel) (pa_cons (pe_lc (own := [("k", 4)]) (g := gName 4) rfl sc_law_drawn_row.nd
          (pi_range1 (by rfl) T.b_range (pa_cons (pe_op op_add (pv 1) (pe_use U1 hr (pa_cons (pv 0) (pa_cons (pe_op op_add (pv 2) pe_int) pa_nil)))) pa_nil))
          (blkOk_by (own := [("k", 4)]) (N := ["m", "least", "more", "high", "k"]) (sc := defScope s_law_drawn_row) (by decide +kernel))
          (fun _ _ _ _ _ => pg_name (i := 4) sc_law_drawn_row.nd rfl (.inl rfl)) (fun _ _ _ _ _ => pts_nil)
          (fun _ _ _ _ _ => pe_use U1 hr (pa_cons (pv 0) (pa_cons (pe_op op_add (pv 3) pe_int) pa_nil)))) pa_nil))), ?_⟩
    refine ⟨.int 6, rfl, .ref d, rfl, .int 24, rfl, 24, 1, rfl, rfl, d, l, cs, L, 24 + 1, rfl, by decide, by decide, hM, by omega, fun H1 k k0 k1 d1 hM1 => ?_⟩
    refine ⟨6, k, rfl, rfl, _, rfl, by omega, by omega, fun D nD => ?_⟩
    obtain ⟨nDd, nDl⟩ := ne_d hM1 nD
    refine lc_it walk_range (fun i H' => DK d H1 H' ∧ MSt H' d l cs (L + 1 + i) ∧ ∃ ns : List Int, H' D = some (.lst (ns.map V.int)) ∧ ns.length = i ∧ ∀ x ∈ ns, 0 ≤ x ∧ x ≤ 1000000) ⟨dk_same (same_new nD), hM1.upd nDd nDl, [], upd_same, rfl, (by intro g hg; cases hg)⟩
      (fun i H' _ h => trivial) (fun i x H3 H4 hlt h hy => ?_) (fun H' h => ?_)
    · obtain ⟨dk, hM3, ns, eD, hnl, hnb⟩ := h
      obtain ⟨rfl, rfl⟩ := hy
      refine ⟨rfl, yes (iteT ?_)⟩
      refine ⟨.ref d, rfl, .int z, rfl, z, 1, rfl, rfl, d, l, cs, L + 1 + i, z + 1, rfl, by omega, by omega, hM3, by omega, fun H5 k' k0' k1' kd hM5 => ?_⟩
      refine ⟨ns.map V.int, kd _ _ nDd eD, ?_, dk_at (dk.trans kd) nD, hM5.upd nDd nDl, ns ++ [k'], ?_, ?_, fun y hy => ?_⟩
      · rw [List.length_map]
        exact small1000 (by omega)
      · rw [upd_same, List.map_append]
        rfl
      · rw [List.length_append, List.length_singleton, hnl]
      · rcases List.mem_append.mp hy with m | m
        · exact hnb y m
        · rw [List.mem_singleton.mp m]
          exact ⟨k0', by omega⟩
    · obtain ⟨dk, hM3, ns, eD, hnl, hnb⟩ := h
      refine ⟨D, _, rfl, .inl ⟨sqL_of eD, fun p np => ?_⟩⟩
      obtain ⟨npd, npl⟩ := ne_d hM3 np
      exact q _ p ns (d1.trans (dk.trans (dk_same (same_new np)))) ((hM3.upd npd npl).mono (by omega)) upd_same (by omega) (by omega) hnb
end
end Bo
/-! The law's own written bills, reckoned. -/
namespace Bo
def bBig : Bl := ⟨50, [⟨[20, 20, 20, 20, 20, 20], 50, -50⟩, ⟨[-20, 0, 20], -50, 50⟩]⟩
def rBig : List Int := [1, 2, 3, 4, 5, 6, 7, 1000000]
def bBest : Bl := ⟨2, [⟨[1, 1, 0], -1, 0⟩]⟩
def b7 : Bl := ⟨7, []⟩
def b0 : Bl := ⟨0, [⟨[1], 1, -1⟩]⟩
def b1 : Bl := ⟨1, []⟩
def b2 : Bl := ⟨1, [⟨[2], 1, 0⟩]⟩
theorem idx_of {ws ns ns' : List Int} (hp : ns'.Perm ns) (ho : ns'.Pairwise (· ≤ ·)) : idx ws ns = dot ws ns' := by
  unfold idx
  rw [← srt_eq hp ho]
theorem e1 : paysOf bBest [5, 3, 4, 9, 1] = [11, -5] := by
  show [2 * 9 + ((-1) * idx [1, 1, 0] [5, 3, 4] + 0 * idx [1, 1, 0] [3, 4, 9] + 0), 2 * 1 + ((-1) * idx [1, 1, 0] [3, 4, 9] + 0 * idx [1, 1, 0] [4, 9, 1] + 0)] = [11, -5]
  rw [idx_of (ns := [5, 3, 4]) (ns' := [3, 4, 5]) (by decide) (by decide), idx_of (ns := [3, 4, 9]) (ns' := [3, 4, 9]) (by decide) (by decide), idx_of (ns := [4, 9, 1]) (ns' := [1, 4, 9]) (by decide) (by decide)]
  decide
theorem e2 : (paysOf bBest [5, 3, 4, 9, 1]).sum = 6 := by
  rw [e1]
  decide
theorem e3 : paysOf b7 [2, 3] = [21] := by decide
theorem e4 : (paysOf b0 [4, 9, 6]).sum = -2 := by
  show ([0 * 9 + (1 * idx [1] [4] + (-1) * idx [1] [9] + 0), 0 * 6 + (1 * idx [1] [9] + (-1) * idx [1] [6] + 0)] : List Int).sum = -2
  rw [idx_of (ns := [4]) (ns' := [4]) (by decide) (by decide), idx_of (ns := [9]) (ns' := [9]) (by decide) (by decide), idx_of (ns := [6]) (ns' := [6]) (by decide) (by decide)]
  decide
theorem tm_ok {ws : List Int} {x y : Int} (h1 : 1 ≤ ws.length) (h2 : ws.length ≤ 6) (h3 : ∀ w ∈ ws, -20 ≤ w ∧ w ≤ 20) (h4 : -50 ≤ x ∧ x ≤ 50) (h5 : -50 ≤ y ∧ y ≤ 50) : (Tm.mk ws x y).Ok := ⟨h1, h2, h3, h4, h5⟩
theorem all_nil {p : Tm → Prop} : ∀ t ∈ ([] : List Tm), p t := by
  intro t ht
  cases ht
theorem all_cons {p : Tm → Prop} {t : Tm} {r : List Tm} (h : p t) (hr : ∀ x ∈ r, p x) : ∀ x ∈ t :: r, p x := by
  intro x hx
  rcases List.mem_cons.mp hx with e | m
  · rw [e]
    exact h
  · exact hr x m
theorem ok_big : bBig.Ok := ⟨by decide, by decide, all_cons (tm_ok (by decide) (by decide) (by decide) (by decide) (by decide)) (all_cons (tm_ok (by decide) (by decide) (by decide) (by decide) (by decide)) all_nil)⟩
theorem ok_best : bBest.Ok := ⟨by decide, by decide, all_cons (tm_ok (by decide) (by decide) (by decide) (by decide) (by decide)) all_nil⟩
theorem ok_7 : b7.Ok := ⟨by decide, by decide, all_nil⟩
theorem ok_0 : b0.Ok := ⟨by decide, by decide, all_cons (tm_ok (by decide) (by decide) (by decide) (by decide) (by decide)) all_nil⟩
theorem ok_1 : b1.Ok := ⟨by decide, by decide, all_nil⟩
theorem ok_2 : b2.Ok := ⟨by decide, by decide, all_cons (tm_ok (by decide) (by decide) (by decide) (by decide) (by decide)) all_nil⟩
theorem ok_1p : (plus b1 bBest).Ok := ⟨by decide, by decide, all_cons (tm_ok (by decide) (by decide) (by decide) (by decide) (by decide)) all_nil⟩
theorem ok_2p : (plus b2 bBest).Ok := ⟨by decide, by decide, all_cons (tm_ok (by decide) (by decide) (by decide) (by decide) (by decide)) (all_cons (tm_ok (by decide) (by decide) (by decide) (by decide) (by decide)) all_nil)⟩
theorem row_big : RowOk rBig := ⟨by decide, by decide⟩
theorem row_5 : RowOk [5, 3, 4, 9, 1] := ⟨by decide, by decide⟩
theorem row_2 : RowOk [2, 3] := ⟨by decide, by decide⟩
theorem row_3 : RowOk [4, 9, 6] := ⟨by decide, by decide⟩
end Bo
namespace Bo
open PySem PySem.Spec PyProof.Rows L2
section
variable {P : Program} {w : World} {K : PySem.W.Frag} {mg : Str → Option Value} {base : Heap}
theorem mkInts {H : Hp} {p : Addr} {xs : List V} {ns : List Int} (e : xs = ns.map V.int) (n : H p = none) : Same H (upd H p (.tup xs)) ∧ IntsAt K (upd H p (.tup xs)) (.ref p) ns := by
  subst e
  exact ⟨same_new n, p, rfl, sqT_new⟩
theorem mkTerm {H : Hp} {p : Addr} {r : V} {ws : List Int} {x y : Int} (h : IntsAt K H r ws) (n : H p = none) : Same H (upd H p (.tup [r, .int x, .int y])) ∧ TermAt K (upd H p (.tup [r, .int x, .int y])) (.ref p) ⟨ws, x, y⟩ :=
  ⟨same_new n, p, r, rfl, sqT_new, h.keep (tk_new n)⟩
/-- the tuple of a bill's terms -/
def TsAt (K : PySem.W.Frag) (H : Hp) (p : Addr) (ls : List Tm) : Prop := ∃ ts, SqT K H p ts ∧ Paired (TermAt K H) ts ls
theorem mkTerms {H : Hp} {p : Addr} {ts : List V} {ls : List Tm} (h : Paired (TermAt K H) ts ls) (n : H p = none) : Same H (upd H p (.tup ts)) ∧ TsAt K (upd H p (.tup ts)) p ls :=
  ⟨same_new n, ts, sqT_new, terms_keep h (tk_new n)⟩
theorem mkBill {H : Hp} {p q : Addr} {ls : List Tm} {own : Int} (h : TsAt K H q ls) (n : H p = none) : Same H (upd H p (.tup [.int own, .ref q])) ∧ BillAt K (upd H p (.tup [.int own, .ref q])) (.ref p) ⟨own, ls⟩ := by
  obtain ⟨ts, h1, h2⟩ := h
  exact ⟨same_new n, p, q, ts, rfl, sqT_new, (tk_new n).tup h1, terms_keep h2 (tk_new n)⟩
theorem mkLst {H : Hp} {p : Addr} {xs : List V} (n : H p = none) : Same H (upd H p (.lst xs)) ∧ (upd H p (.lst xs)) p = some (.lst xs) := ⟨same_new n, upd_same⟩

theorem TsAt.keep {H H' : Hp} {p : Addr} {ls : List Tm} (h : TsAt K H p ls) (k : TK H H') : TsAt K H' p ls := by
  obtain ⟨ts, h1, h2⟩ := h
  exact ⟨ts, k.tup h1, terms_keep h2 k⟩
/-- what the law compares last -/
def endD : PyData := .list [.tuple [.int 11, .int (-5)], .int 6, .int 1, .tuple [.int 21], .int (-2), billD (plus b1 bBest), billD (plus b2 bBest)]
theorem endD_ok : SeqAt.shaped endD = true := by decide +kernel
theorem endD_eq : PyData.eqv endD endD = true := SeqAt.eqv_refl _ (SeqAt.canLay_of_shaped endD_ok)

/-! ### law -/
theorem sc_law : FnScope ["script", "m", "lap", "one", "two", "row_so", "kept", "best", "heard", "due"] ["script"] (defScope s_law) := ⟨rfl, rfl, rfl, by decide +kernel, rfl, by decide +kernel, by decide +kernel⟩
def sp_law (K : PySem.W.Frag) : Sp := fun vs H Q _ => ∃ (a : Addr) (ns : List Int), vs = [.ref a] ∧ SqL K H a (ns.map V.int) ∧ ns.length ≤ 63 ∧ ∀ H', Q (.bl true) H'
def lapD (a b : Bl) (ns : List Int) : PyData := .list [billD a, billD b, rowD ns]
theorem good_lap {a b : Bl} {ns : List Int} (ha : a.Ok) (hb : b.Ok) (hr : ∀ x ∈ ns, 0 ≤ x ∧ x ≤ 1000000) (hl : ns.length ≤ 30) : Good 5 4600 (lapD a b ns) :=
  good_lst (good_cons (W' := 3200) (good_bill ha) (good_cons (W' := 1831) (good_bill hb) (good_cons (W' := 0) ((good_row (n := 30) hr hl).mono (by decide) (Nat.le_refl _)) good_nil (by omega)) (by omega)) (by omega))
theorem fn_law {f : Addr} {fd : FuncData} (T : Txt K mg) (F : FnP K "law" s_law f fd) : FnG P w K mg base 11 f fd ["script"] (sp_law K) := by
  have U1 : Use P w K mg base 1 "_law_begun" ["script"] (sp_law_begun K) := u_law_begun T
  have U2 : Use P w K mg base 3 "_law_drawn_bill" ["m", "most"] (sp_law_drawn_bill K) := u_law_drawn_bill T
  have U3 : Use P w K mg base 2 "_law_drawn_row" ["m", "least", "more", "high"] sp_law_drawn_row := u_law_drawn_row T
  have U4 : Use P w K mg base 2 "_law_of" ["m", "some"] (sp_law_of K) := u_law_of T
  have U5 : UseG P w K mg base 10 "_law_right" ["bill_so", "row_so"] (sp_law_right K) := u_law_right T
  have U6 : UseG P w K mg base 10 "_law_sum_right" ["one", "two", "row_so"] (sp_law_sum_right K) := u_law_sum_right T
  have U7 : Use P w K mg base 8 "pays" ["bill", "row"] (sp_pays K) := u_pays T
  have U8 : Use P w K mg base 9 "worth" ["bill", "row"] (sp_worth K) := u_worth T
  have U9 : Use P w K mg base 7 "width" ["bill"] (sp_width_of K) := u_width T
  have U10 : Use P w K mg base 7 "added" ["bill", "other"] (sp_added K) := u_added T
  refine fnG_by F sc_law (fun vs H Q E h => ?_) fun cdv A outer s H vs Q E hG hr h => ?_
  · obtain ⟨a, ns, rfl, _⟩ := h
    rfl
  · obtain ⟨a, ns, rfl, hS, hl, q⟩ := h
    refine ⟨_, pss_cons (ps_set (i := 1) sc_law.nd rfl (.inl rfl) (pe_use U1 hr (pa_cons (pv 0) pa_nil))) <|
      pss_cons (ps_for PassesOwn.never rfl (pi_range1 (by rfl) T.b_range (pa_cons (pe_op op_add pe_int (pe_callB (call_min2 rfl) (by rfl) T.b_min (by decide +kernel) (pa_cons (pe_len T.b_len (pv 0)) (pa_cons pe_int pa_nil)))) pa_nil)) (pg_name (i := 2) sc_law.nd rfl (.inl rfl)) <|
        pss_cons (ps_par (i := 3) (j := 4) (by rfl) sc_law.nd rfl rfl (by decide) rfl rfl (pa_cons (pe_use U2 hr (pa_cons (pv 1) (pa_cons pe_int pa_nil))) (pa_cons (pe_use U2 hr (pa_cons (pv 1) (pa_cons pe_int pa_nil))) pa_nil)) (by rfl)) <|
        pss_cons (ps_set (i := 5) sc_law.nd rfl (.inl rfl) (pe_use U3 hr (pa_cons (pv 1) (pa_cons pe_int (pa_cons pe_int (pa_cons (pe_use U4 hr (pa_cons (pv 1) (pa_cons (pe_lst (pa_cons pe_int (pa_cons pe_int (pa_cons (pe_op op_pow pe_int pe_int) pa_nil)))) pa_nil))) pa_nil)))))) <|
        pss_cons (ps_set (i := 6) sc_law.nd rfl (.inl rfl) (pe_callB (cr_repr hG hr.units) (by rfl) T.b_repr (by decide +kernel) (pa_cons (pe_lst (pa_cons (pv 3) (pa_cons (pv 4) (pa_cons (pv 5) pa_nil)))) pa_nil))) <|
        pss_cons (ps_if (PW.pt (pw_or (pt_not (pt_val (pe_useG U5 hG hr (pa_cons (pv 3) (pa_cons (pv 5) pa_nil))))) (pw_or (pt_not (pt_val (pe_useG U5 hG hr (pa_cons (pv 4) (pa_cons (pv 5) pa_nil))))) (pw_or1 (pt_not (pt_val (pe_useG U6 hG hr (pa_cons (pv 3) (pa_cons (pv 4) (pa_cons (pv 5) pa_nil)))))))))) pss_never pss_nil) <|
        pss_one (ps_if (pt_cmpR op_ne (pe_callB (cr_repr hG hr.units) (by rfl) T.b_repr (by decide +kernel) (pa_cons (pe_lst (pa_cons (pv 3) (pa_cons (pv 4) (pa_cons (pv 5) pa_nil)))) pa_nil)) (pv 6) (nomark _)) pss_never pss_nil)) <|
      pss_cons (ps_if (pt_not (pt_val (pe_useG U5 hG hr (pa_cons (pe_tup (pa_cons pe_int (pa_cons (pe_tup (pa_cons (pe_tup (pa_cons (pe_op op_repT (pe_tup (pa_cons pe_int pa_nil)) pe_int) (pa_cons pe_int (pa_cons (pe_un un_neg pe_int) pa_nil))))
          (pa_cons (pe_tup (pa_cons (pe_tup (pa_cons (pe_un un_neg pe_int) (pa_cons pe_int (pa_cons pe_int pa_nil)))) (pa_cons (pe_un un_neg pe_int) (pa_cons pe_int pa_nil)))) pa_nil))) pa_nil)))
        (pa_cons (pe_tup (pa_cons pe_int (pa_cons pe_int (pa_cons pe_int (pa_cons pe_int (pa_cons pe_int (pa_cons pe_int (pa_cons pe_int (pa_cons (pe_op op_pow pe_int pe_int) pa_nil))))))))) pa_nil))))) pss_never pss_nil) <|
      pss_cons (ps_set (i := 7) sc_law.nd rfl (.inl rfl) (pe_tup (pa_cons pe_int (pa_cons (pe_tup (pa_cons (pe_tup (pa_cons (pe_tup (pa_cons pe_int (pa_cons pe_int (pa_cons pe_int pa_nil)))) (pa_cons (pe_un un_neg pe_int) (pa_cons pe_int pa_nil)))) pa_nil)) pa_nil)))) <|
      pss_cons (ps_set (i := 8) sc_law.nd rfl (.inl rfl) (pe_lst (pa_cons (pe_use U7 hr (pa_cons (pv 7) (pa_cons (pe_tup (pa_cons pe_int (pa_cons pe_int (pa_cons pe_int (pa_cons pe_int (pa_cons pe_int pa_nil)))))) pa_nil)))
        (pa_cons (pe_use U8 hr (pa_cons (pv 7) (pa_cons (pe_tup (pa_cons pe_int (pa_cons pe_int (pa_cons pe_int (pa_cons pe_int (pa_cons pe_int pa_nil)))))) pa_nil)))
        (pa_cons (pe_use U9 hr (pa_cons (pe_tup (pa_cons pe_int (pa_cons (pe_tup pa_nil) pa_nil))) pa_nil))
        (pa_cons (pe_use U7 hr (pa_cons (pe_tup (pa_cons pe_int (pa_cons (pe_tup pa_nil) pa_nil))) (pa_cons (pe_tup (pa_cons pe_int (pa_cons pe_int pa_nil))) pa_nil))) pa_nil)))))) <|
      pss_cons (ps_set (i := 8) sc_law.nd rfl (.inl rfl) (pe_op op_cat (pv 8) (pe_lst (pa_cons (pe_use U8 hr (pa_cons (pe_tup (pa_cons pe_int (pa_cons (pe_tup (pa_cons (pe_tup (pa_cons (pe_tup (pa_cons pe_int pa_nil)) (pa_cons pe_int (pa_cons (pe_un un_neg pe_int) pa_nil)))) pa_nil)) pa_nil)))
            (pa_cons (pe_tup (pa_cons pe_int (pa_cons pe_int (pa_cons pe_int pa_nil)))) pa_nil)))
        (pa_cons (pe_use U10 hr (pa_cons (pe_tup (pa_cons pe_int (pa_cons (pe_tup pa_nil) pa_nil))) (pa_cons (pv 7) pa_nil)))
        (pa_cons (pe_use U10 hr (pa_cons (pe_tup (pa_cons pe_int (pa_cons (pe_tup (pa_cons (pe_tup (pa_cons (pe_tup (pa_cons pe_int pa_nil)) (pa_cons pe_int (pa_cons pe_int pa_nil)))) pa_nil)) pa_nil))) (pa_cons (pv 7) pa_nil))) pa_nil)))))) <|
      pss_cons (ps_set (i := 9) sc_law.nd rfl (.inl rfl) (pe_lst (pa_cons (pe_tup (pa_cons pe_int (pa_cons (pe_un un_neg pe_int) pa_nil))) (pa_cons pe_int (pa_cons pe_int (pa_cons (pe_tup (pa_cons pe_int pa_nil)) (pa_cons (pe_un un_neg pe_int)
        (pa_cons (pe_tup (pa_cons pe_int (pa_cons (pe_tup (pa_cons (pe_tup (pa_cons (pe_tup (pa_cons pe_int (pa_cons pe_int (pa_cons pe_int pa_nil)))) (pa_cons (pe_un un_neg pe_int) (pa_cons pe_int pa_nil)))) pa_nil)) pa_nil))) pa_nil)))))))) <|
      pss_one (ps_ret (pe_cmpR (op_eqD hr.units) (pv 8) (pe_op op_cat (pv 9) (pe_lst (pa_cons (pe_tup (pa_cons pe_int (pa_cons (pe_tup (pa_cons (pe_tup (pa_cons (pe_tup (pa_cons pe_int pa_nil)) (pa_cons pe_int (pa_cons pe_int pa_nil))))
        (pa_cons (pe_tup (pa_cons (pe_tup (pa_cons pe_int (pa_cons pe_int (pa_cons pe_int pa_nil)))) (pa_cons (pe_un un_neg pe_int) (pa_cons pe_int pa_nil)))) pa_nil))) pa_nil))) pa_nil))) (nomark _))), ?_⟩
    refine ⟨.ref a, rfl, a, ns, rfl, hS, hl, fun H1 d l s1 hM1 => ?_⟩
    obtain ⟨m, hm, hm14⟩ : ∃ m : Nat, (6 : Int) + (if (8 : Int) < (((ns.map V.int).length : Nat) : Int) then 8 else (((ns.map V.int).length : Nat) : Int)) = (m : Int) ∧ m ≤ 14 := by
      by_cases c : (8 : Int) < (((ns.map V.int).length : Nat) : Int)
      · rw [if_pos c]
        exact ⟨14, rfl, Nat.le_refl _⟩
      · rw [if_neg c]
        exact ⟨6 + (ns.map V.int).length, by omega, by omega⟩
    refine ⟨.ref a, rfl, a, _, rfl, .inl (s1.seq hS), _, _, rfl, _, _, rfl, rfl, m, by rw [← hm], by omega, by omega, ?_⟩
    rw [show ((m : Int)).toNat = m by omega]
    refine for_it walk_range (fun i σ H' => ∃ y2 y3 y4 y5 y6, σ = [some (.ref a), some (.ref d), y2, y3, y4, y5, y6, none, none, none] ∧ MSt H' d l (ns ++ [(ns.length : Int)]) (130 * i)) ⟨none, none, none, none, none, rfl, hM1⟩ (fun i σ H' _ h => trivial) (fun i x σ H2 H3 hlt h hy => ?_) (fun σ H0 h => ?_)
    · obtain ⟨y2, y3, y4, y5, y6, rfl, hM⟩ := h
      obtain ⟨rfl, rfl⟩ := hy
      refine ⟨.ref d, rfl, d, l, _, 130 * i, 6, rfl, by decide, by decide, hM, by omega, fun H4 v1 b1 d4 hM4 hB1 ok1 => ?_⟩
      refine ⟨.ref d, rfl, d, l, _, 130 * i + 40, 4, rfl, by decide, by decide, hM4, by omega, fun H5 v2 b2 d5 hM5 hB2 ok2 => ?_⟩
      replace hB1 := hB1.keep (hM4.tk d5)
      refine ⟨_, _, rfl, ?_⟩
      refine ⟨.ref d, rfl, .ref d, rfl, 10, 6, rfl, rfl, ⟨by decide, by decide, by decide⟩, by show 3 ≤ sizeLine; decide, fun o no => ?_⟩
      obtain ⟨s6, eo⟩ := mkLst (xs := [.int 1, .int 5, .int (10 ^ (6 : Int).toNat)]) no
      generalize upd H5 o (.lst [.int 1, .int 5, .int (10 ^ (6 : Int).toNat)]) = H6 at s6 eo ⊢
      replace hB1 := hB1.keep (tk_same s6)
      replace hB2 := hB2.keep (tk_same s6)
      have hM6 := hM5.same s6
      refine ⟨d, l, o, _, 130 * i + 40 + 40, _, rfl, sqL_of eo, by show 1 ≤ 3; decide, by show 3 ≤ 1000; decide, hM6, by omega, fun H7 x hx d7 hM7 => ?_⟩
      replace hB1 := hB1.keep (hM6.tk d7)
      replace hB2 := hB2.keep (hM6.tk d7)
      obtain ⟨z, rfl, hz0, hz1⟩ : ∃ z : Int, x = V.int z ∧ 0 ≤ z ∧ z ≤ 1000000 := by
        simp only [List.mem_cons, List.not_mem_nil, or_false] at hx
        rcases hx with e | e | e
        · exact ⟨_, e, by decide, by decide⟩
        · exact ⟨_, e, by decide, by decide⟩
        · exact ⟨_, e, by decide, by decide⟩
      refine ⟨d, l, _, 130 * i + 40 + 40 + 1, z, rfl, hz0, hz1, hM7, by omega, fun H8 c rs d8 hM8 ec r6 r30 rb => ?_⟩
      replace hB1 := hB1.keep (hM7.tk d8)
      replace hB2 := hB2.keep (hM7.tk d8)
      have hR : IntsAt K H8 (.ref c) rs := ⟨c, rfl, sqT_of ec⟩
      have ro : RowOk rs := ⟨by omega, rb⟩
      have gl := good_lap ok1 ok2 rb r30
      have w1 := ok1.wide6
      have w2 := ok2.wide6
      -- kept
      refine ⟨v1, rfl, v2, rfl, .ref c, rfl, by show 3 ≤ sizeLine; decide, fun o1 no1 => ?_⟩
      obtain ⟨s9, eo1⟩ := mkLst (xs := [v1, v2, .ref c]) no1
      generalize upd H8 o1 (.lst [v1, v2, .ref c]) = H9 at s9 eo1 ⊢
      replace hB1 := hB1.keep (tk_same s9)
      replace hB2 := hB2.keep (tk_same s9)
      replace hR := hR.keep (tk_same s9)
      refine ⟨o1, lapD b1 b2 rs, rfl, .lst (sqL_of eo1) (.cons hB1.dp (.cons hB2.dp (.cons hR.dp .nil))), gl.sh, gl.nd, gl.fits (by omega), Nat.le_trans gl.dp (by decide), ?_⟩
      -- the three laws
      refine ⟨v1, rfl, .ref c, rfl, v1, .ref c, b1, rs, rfl, hB1, ok1, hR, ro, by omega, by omega, fun H10 s10 => ⟨true, rfl, iteF ?_⟩⟩
      replace hB1 := hB1.keep (tk_same s10)
      replace hB2 := hB2.keep (tk_same s10)
      replace hR := hR.keep (tk_same s10)
      refine ⟨v2, rfl, .ref c, rfl, v2, .ref c, b2, rs, rfl, hB2, ok2, hR, ro, by omega, by omega, fun H11 s11 => ⟨true, rfl, iteF ?_⟩⟩
      replace hB1 := hB1.keep (tk_same s11)
      replace hB2 := hB2.keep (tk_same s11)
      replace hR := hR.keep (tk_same s11)
      refine ⟨v1, rfl, v2, rfl, .ref c, rfl, v1, v2, .ref c, b1, b2, rs, rfl, hB1, hB2, ok1, ok2, hR, ro, by omega, by omega, fun H12 s12 => ⟨true, rfl, iteF ?_⟩⟩
      replace hB1 := hB1.keep (tk_same s12)
      replace hB2 := hB2.keep (tk_same s12)
      replace hR := hR.keep (tk_same s12)
      -- repr([one, two, row_so]) != kept
      refine ⟨v1, rfl, v2, rfl, .ref c, rfl, by show 3 ≤ sizeLine; decide, fun o2 no2 => ?_⟩
      obtain ⟨s13, eo2⟩ := mkLst (xs := [v1, v2, .ref c]) no2
      generalize upd H12 o2 (.lst [v1, v2, .ref c]) = H13 at s13 eo2 ⊢
      replace hB1 := hB1.keep (tk_same s13)
      replace hB2 := hB2.keep (tk_same s13)
      replace hR := hR.keep (tk_same s13)
      refine ⟨o2, lapD b1 b2 rs, rfl, .lst (sqL_of eo2) (.cons hB1.dp (.cons hB2.dp (.cons hR.dp .nil))), gl.sh, gl.nd, gl.fits (by omega), Nat.le_trans gl.dp (by decide), _, rfl, rfl, _, rfl, iteNS rfl ?_⟩
      exact ⟨_, _, _, _, _, rfl, (hM8.same (s9.trans (s10.trans (s11.trans (s12.trans s13))))).mono (by omega)⟩
    obtain ⟨y2, y3, y4, y5, y6, rfl, hM0⟩ := h
    refine ⟨by show 1 ≤ sizeLine; decide, fun p1 np1 => ?_⟩
    obtain ⟨s1, w1n⟩ := mkInts (K := K) (xs := [.int 20]) (ns := [20]) rfl np1
    generalize upd H0 p1 (.tup [.int 20]) = G1 at s1 w1n ⊢
    have w1 := w1n
    obtain ⟨_, ew1, hw1⟩ := id w1
    cases ew1
    refine ⟨p1, 6, [.int 20], rfl, rfl, hw1, by simp, by decide, by decide, by decide, fun p2 np2 => ?_⟩
    obtain ⟨s2, w2n⟩ := mkInts (K := K) (xs := (List.replicate (6 : Int).toNat [V.int 20]).flatten) (ns := [20, 20, 20, 20, 20, 20]) rfl np2
    generalize upd G1 p2 (.tup (List.replicate (6 : Int).toNat [.int 20]).flatten) = G2 at s2 w2n ⊢
    have w2 := w2n
    refine ⟨50, rfl, by show 3 ≤ sizeLine; decide, fun p3 np3 => ?_⟩
    obtain ⟨s3, t1n⟩ := mkTerm (x := 50) (y := -50) w2 np3
    generalize upd G2 p3 (.tup [.ref p2, .int 50, .int (-50)]) = G3 at s3 t1n ⊢
    replace w2 := w2.keep (tk_same s3)
    have t1 := t1n
    refine ⟨20, rfl, by show 3 ≤ sizeLine; decide, fun p4 np4 => ?_⟩
    obtain ⟨s4, w3n⟩ := mkInts (K := K) (xs := [.int (-20), .int 0, .int 20]) (ns := [-20, 0, 20]) rfl np4
    generalize upd G3 p4 (.tup [.int (-20), .int 0, .int 20]) = G4 at s4 w3n ⊢
    replace t1 := t1.keep (tk_same s4)
    have w3 := w3n
    refine ⟨50, rfl, by show 3 ≤ sizeLine; decide, fun p5 np5 => ?_⟩
    obtain ⟨s5, t2n⟩ := mkTerm (x := -50) (y := 50) w3 np5
    generalize upd G4 p5 (.tup [.ref p4, .int (-50), .int 50]) = G5 at s5 t2n ⊢
    replace t1 := t1.keep (tk_same s5)
    replace w3 := w3.keep (tk_same s5)
    have t2 := t2n
    refine ⟨by show 2 ≤ sizeLine; decide, fun p6 np6 => ?_⟩
    obtain ⟨s6, z1n⟩ := mkTerms (K := K) (.cons t1 (.cons t2 .nil)) np6
    generalize upd G5 p6 (.tup [.ref p3, .ref p5]) = G6 at s6 z1n ⊢
    replace t1 := t1.keep (tk_same s6)
    replace t2 := t2.keep (tk_same s6)
    have z1 := z1n
    refine ⟨by show 2 ≤ sizeLine; decide, fun p7 np7 => ?_⟩
    obtain ⟨s7, hBign⟩ := mkBill (own := 50) z1 np7
    generalize upd G6 p7 (.tup [.int 50, .ref p6]) = G7 at s7 hBign ⊢
    replace z1 := z1.keep (tk_same s7)
    have hBig := hBign
    refine ⟨10, 6, rfl, rfl, ⟨by decide, by decide, by decide⟩, by show 8 ≤ sizeLine; decide, fun p8 np8 => ?_⟩
    obtain ⟨s8, rBn⟩ := mkInts (K := K) (xs := [.int 1, .int 2, .int 3, .int 4, .int 5, .int 6, .int 7, .int (10 ^ (6 : Int).toNat)]) (ns := rBig) rfl np8
    generalize upd G7 p8 (.tup [.int 1, .int 2, .int 3, .int 4, .int 5, .int 6, .int 7, .int (10 ^ (6 : Int).toNat)]) = G8 at s8 rBn ⊢
    replace hBig := hBig.keep (tk_same s8)
    have rB := rBn
    refine ⟨.ref p7, .ref p8, bBig, rBig, rfl, hBig, ok_big, rB, row_big, by decide, by decide, fun G9 s9 => ⟨true, rfl, iteF ?_⟩⟩
    refine ⟨by show 3 ≤ sizeLine; decide, fun p10 np10 => ?_⟩
    obtain ⟨s10, wBn⟩ := mkInts (K := K) (xs := [.int 1, .int 1, .int 0]) (ns := [1, 1, 0]) rfl np10
    generalize upd G9 p10 (.tup [.int 1, .int 1, .int 0]) = G10 at s10 wBn ⊢
    have wB := wBn
    refine ⟨1, rfl, by show 3 ≤ sizeLine; decide, fun p11 np11 => ?_⟩
    obtain ⟨s11, tBn⟩ := mkTerm (x := -1) (y := 0) wB np11
    generalize upd G10 p11 (.tup [.ref p10, .int (-1), .int 0]) = G11 at s11 tBn ⊢
    replace wB := wB.keep (tk_same s11)
    have tB := tBn
    refine ⟨by show 1 ≤ sizeLine; decide, fun p12 np12 => ?_⟩
    obtain ⟨s12, zBn⟩ := mkTerms (K := K) (.cons tB .nil) np12
    generalize upd G11 p12 (.tup [.ref p11]) = G12 at s12 zBn ⊢
    replace tB := tB.keep (tk_same s12)
    have zB := zBn
    refine ⟨by show 2 ≤ sizeLine; decide, fun p13 np13 => ?_⟩
    obtain ⟨s13, hBn⟩ := mkBill (own := 2) zB np13
    generalize upd G12 p13 (.tup [.int 2, .ref p12]) = G13 at s13 hBn ⊢
    replace zB := zB.keep (tk_same s13)
    have hB := hBn
    -- heard
    refine ⟨.ref p13, rfl, ?_⟩
    refine ⟨by show 5 ≤ sizeLine; decide, fun p14 np14 => ?_⟩
    obtain ⟨s14, r1n⟩ := mkInts (K := K) (xs := [.int 5, .int 3, .int 4, .int 9, .int 1]) (ns := [5, 3, 4, 9, 1]) rfl np14
    generalize upd G13 p14 (.tup [.int 5, .int 3, .int 4, .int 9, .int 1]) = G14 at s14 r1n ⊢
    replace hB := hB.keep (tk_same s14)
    have r1 := r1n
    refine ⟨.ref p13, .ref p14, bBest, [5, 3, 4, 9, 1], rfl, hB, ok_best, r1, row_5, by decide, fun G15 c15 s15 ec15 => ?_⟩
    replace hB := hB.keep (tk_same s15)
    replace r1 := r1.keep (tk_same s15)
    rw [e1] at ec15
    refine ⟨.ref p13, rfl, ?_⟩
    refine ⟨by show 5 ≤ sizeLine; decide, fun p16 np16 => ?_⟩
    obtain ⟨s16, r1n⟩ := mkInts (K := K) (xs := [.int 5, .int 3, .int 4, .int 9, .int 1]) (ns := [5, 3, 4, 9, 1]) rfl np16
    generalize upd G15 p16 (.tup [.int 5, .int 3, .int 4, .int 9, .int 1]) = G16 at s16 r1n ⊢
    replace hB := hB.keep (tk_same s16)
    replace ec15 := s16 _ _ ec15
    have r1 := r1n
    refine ⟨.ref p13, .ref p16, bBest, [5, 3, 4, 9, 1], rfl, hB, ok_best, r1, row_5, by decide, fun G17 s17 => ?_⟩
    replace hB := hB.keep (tk_same s17)
    replace ec15 := s17 _ _ ec15
    replace r1 := r1.keep (tk_same s17)
    rw [e2]
    refine ⟨by show 0 ≤ sizeLine; decide, fun p18 np18 => ?_⟩
    obtain ⟨s18, z7n⟩ := mkTerms (K := K) .nil np18
    generalize upd G17 p18 (.tup []) = G18 at s18 z7n ⊢
    replace hB := hB.keep (tk_same s18)
    replace ec15 := s18 _ _ ec15
    have z7 := z7n
    refine ⟨by show 2 ≤ sizeLine; decide, fun p19 np19 => ?_⟩
    obtain ⟨s19, h7n⟩ := mkBill (own := 7) z7 np19
    generalize upd G18 p19 (.tup [.int 7, .ref p18]) = G19 at s19 h7n ⊢
    replace hB := hB.keep (tk_same s19)
    replace ec15 := s19 _ _ ec15
    replace z7 := z7.keep (tk_same s19)
    have h7 := h7n
    refine ⟨.ref p19, b7, rfl, h7, ok_7, fun G20 s20 => ?_⟩
    replace hB := hB.keep (tk_same s20)
    replace ec15 := s20 _ _ ec15
    replace h7 := h7.keep (tk_same s20)
    rw [show ((b7.wide : Nat) : Int) = 1 from rfl]
    refine ⟨by show 0 ≤ sizeLine; decide, fun p21 np21 => ?_⟩
    obtain ⟨s21, z7n⟩ := mkTerms (K := K) .nil np21
    generalize upd G20 p21 (.tup []) = G21 at s21 z7n ⊢
    replace hB := hB.keep (tk_same s21)
    replace ec15 := s21 _ _ ec15
    have z7 := z7n
    refine ⟨by show 2 ≤ sizeLine; decide, fun p22 np22 => ?_⟩
    obtain ⟨s22, h7n⟩ := mkBill (own := 7) z7 np22
    generalize upd G21 p22 (.tup [.int 7, .ref p21]) = G22 at s22 h7n ⊢
    replace hB := hB.keep (tk_same s22)
    replace ec15 := s22 _ _ ec15
    replace z7 := z7.keep (tk_same s22)
    have h7 := h7n
    refine ⟨by show 2 ≤ sizeLine; decide, fun p23 np23 => ?_⟩
    obtain ⟨s23, r1n⟩ := mkInts (K := K) (xs := [.int 2, .int 3]) (ns := [2, 3]) rfl np23
    generalize upd G22 p23 (.tup [.int 2, .int 3]) = G23 at s23 r1n ⊢
    replace hB := hB.keep (tk_same s23)
    replace ec15 := s23 _ _ ec15
    replace h7 := h7.keep (tk_same s23)
    have r1 := r1n
    refine ⟨.ref p22, .ref p23, b7, [2, 3], rfl, h7, ok_7, r1, row_2, by decide, fun G24 c24 s24 ec24 => ?_⟩
    replace hB := hB.keep (tk_same s24)
    replace ec15 := s24 _ _ ec15
    replace h7 := h7.keep (tk_same s24)
    replace r1 := r1.keep (tk_same s24)
    rw [e3] at ec24
    refine ⟨by show 4 ≤ sizeLine; decide, fun p25 np25 => ?_⟩
    obtain ⟨s25, eLn⟩ := mkLst np25
    generalize upd G24 p25 (.lst [.ref c15, .int 6, .int 1, .ref c24]) = G25 at s25 eLn ⊢
    replace hB := hB.keep (tk_same s25)
    replace ec15 := s25 _ _ ec15
    replace ec24 := s25 _ _ ec24
    have eL := eLn
    -- heard + [..]
    refine ⟨.ref p25, rfl, ?_⟩
    refine ⟨by show 1 ≤ sizeLine; decide, fun p26 np26 => ?_⟩
    obtain ⟨s26, w0n⟩ := mkInts (K := K) (xs := [.int 1]) (ns := [1]) rfl np26
    generalize upd G25 p26 (.tup [.int 1]) = G26 at s26 w0n ⊢
    replace hB := hB.keep (tk_same s26)
    replace ec15 := s26 _ _ ec15
    replace ec24 := s26 _ _ ec24
    replace eL := s26 _ _ eL
    have w0 := w0n
    refine ⟨1, rfl, by show 3 ≤ sizeLine; decide, fun p27 np27 => ?_⟩
    obtain ⟨s27, t0n⟩ := mkTerm (x := 1) (y := -1) w0 np27
    generalize upd G26 p27 (.tup [.ref p26, .int 1, .int (-1)]) = G27 at s27 t0n ⊢
    replace hB := hB.keep (tk_same s27)
    replace ec15 := s27 _ _ ec15
    replace ec24 := s27 _ _ ec24
    replace eL := s27 _ _ eL
    replace w0 := w0.keep (tk_same s27)
    have t0 := t0n
    refine ⟨by show 1 ≤ sizeLine; decide, fun p28 np28 => ?_⟩
    obtain ⟨s28, z0n⟩ := mkTerms (K := K) (.cons t0 .nil) np28
    generalize upd G27 p28 (.tup [.ref p27]) = G28 at s28 z0n ⊢
    replace hB := hB.keep (tk_same s28)
    replace ec15 := s28 _ _ ec15
    replace ec24 := s28 _ _ ec24
    replace eL := s28 _ _ eL
    replace t0 := t0.keep (tk_same s28)
    have z0 := z0n
    refine ⟨by show 2 ≤ sizeLine; decide, fun p29 np29 => ?_⟩
    obtain ⟨s29, h0n⟩ := mkBill (own := 0) z0 np29
    generalize upd G28 p29 (.tup [.int 0, .ref p28]) = G29 at s29 h0n ⊢
    replace hB := hB.keep (tk_same s29)
    replace ec15 := s29 _ _ ec15
    replace ec24 := s29 _ _ ec24
    replace eL := s29 _ _ eL
    replace z0 := z0.keep (tk_same s29)
    have h0 := h0n
    refine ⟨by show 3 ≤ sizeLine; decide, fun p30 np30 => ?_⟩
    obtain ⟨s30, r1n⟩ := mkInts (K := K) (xs := [.int 4, .int 9, .int 6]) (ns := [4, 9, 6]) rfl np30
    generalize upd G29 p30 (.tup [.int 4, .int 9, .int 6]) = G30 at s30 r1n ⊢
    replace hB := hB.keep (tk_same s30)
    replace ec15 := s30 _ _ ec15
    replace ec24 := s30 _ _ ec24
    replace eL := s30 _ _ eL
    replace h0 := h0.keep (tk_same s30)
    have r1 := r1n
    refine ⟨.ref p29, .ref p30, b0, [4, 9, 6], rfl, h0, ok_0, r1, row_3, by decide, fun G31 s31 => ?_⟩
    replace hB := hB.keep (tk_same s31)
    replace ec15 := s31 _ _ ec15
    replace ec24 := s31 _ _ ec24
    replace eL := s31 _ _ eL
    replace h0 := h0.keep (tk_same s31)
    replace r1 := r1.keep (tk_same s31)
    rw [e4]
    refine ⟨by show 0 ≤ sizeLine; decide, fun p32 np32 => ?_⟩
    obtain ⟨s32, z1n⟩ := mkTerms (K := K) .nil np32
    generalize upd G31 p32 (.tup []) = G32 at s32 z1n ⊢
    replace hB := hB.keep (tk_same s32)
    replace ec15 := s32 _ _ ec15
    replace ec24 := s32 _ _ ec24
    replace eL := s32 _ _ eL
    have z1 := z1n
    refine ⟨by show 2 ≤ sizeLine; decide, fun p33 np33 => ?_⟩
    obtain ⟨s33, h1n⟩ := mkBill (own := 1) z1 np33
    generalize upd G32 p33 (.tup [.int 1, .ref p32]) = G33 at s33 h1n ⊢
    replace hB := hB.keep (tk_same s33)
    replace ec15 := s33 _ _ ec15
    replace ec24 := s33 _ _ ec24
    replace eL := s33 _ _ eL
    replace z1 := z1.keep (tk_same s33)
    have h1 := h1n
    refine ⟨.ref p13, rfl, ?_⟩
    refine ⟨.ref p33, .ref p13, b1, bBest, rfl, h1, hB, ok_1, ok_best, ok_1p, fun G34 c34 s34 hc34 => ?_⟩
    replace hB := hB.keep (tk_same s34)
    replace ec15 := s34 _ _ ec15
    replace ec24 := s34 _ _ ec24
    replace eL := s34 _ _ eL
    replace h1 := h1.keep (tk_same s34)
    refine ⟨by show 1 ≤ sizeLine; decide, fun p35 np35 => ?_⟩
    obtain ⟨s35, w2n⟩ := mkInts (K := K) (xs := [.int 2]) (ns := [2]) rfl np35
    generalize upd G34 p35 (.tup [.int 2]) = G35 at s35 w2n ⊢
    replace hB := hB.keep (tk_same s35)
    replace ec15 := s35 _ _ ec15
    replace ec24 := s35 _ _ ec24
    replace eL := s35 _ _ eL
    replace hc34 := hc34.keep (tk_same s35)
    have w2 := w2n
    refine ⟨by show 3 ≤ sizeLine; decide, fun p36 np36 => ?_⟩
    obtain ⟨s36, t2n⟩ := mkTerm (x := 1) (y := 0) w2 np36
    generalize upd G35 p36 (.tup [.ref p35, .int 1, .int 0]) = G36 at s36 t2n ⊢
    replace hB := hB.keep (tk_same s36)
    replace ec15 := s36 _ _ ec15
    replace ec24 := s36 _ _ ec24
    replace eL := s36 _ _ eL
    replace hc34 := hc34.keep (tk_same s36)
    replace w2 := w2.keep (tk_same s36)
    have t2 := t2n
    refine ⟨by show 1 ≤ sizeLine; decide, fun p37 np37 => ?_⟩
    obtain ⟨s37, z2n⟩ := mkTerms (K := K) (.cons t2 .nil) np37
    generalize upd G36 p37 (.tup [.ref p36]) = G37 at s37 z2n ⊢
    replace hB := hB.keep (tk_same s37)
    replace ec15 := s37 _ _ ec15
    replace ec24 := s37 _ _ ec24
    replace eL := s37 _ _ eL
    replace hc34 := hc34.keep (tk_same s37)
    replace t2 := t2.keep (tk_same s37)
    have z2 := z2n
    refine ⟨by show 2 ≤ sizeLine; decide, fun p38 np38 => ?_⟩
    obtain ⟨s38, h2n⟩ := mkBill (own := 1) z2 np38
    generalize upd G37 p38 (.tup [.int 1, .ref p37]) = G38 at s38 h2n ⊢
    replace hB := hB.keep (tk_same s38)
    replace ec15 := s38 _ _ ec15
    replace ec24 := s38 _ _ ec24
    replace eL := s38 _ _ eL
    replace hc34 := hc34.keep (tk_same s38)
    replace z2 := z2.keep (tk_same s38)
    have h2 := h2n
    refine ⟨.ref p13, rfl, ?_⟩
    refine ⟨.ref p38, .ref p13, b2, bBest, rfl, h2, hB, ok_2, ok_best, ok_2p, fun G39 c39 s39 hc39 => ?_⟩
    replace hB := hB.keep (tk_same s39)
    replace ec15 := s39 _ _ ec15
    replace ec24 := s39 _ _ ec24
    replace eL := s39 _ _ eL
    replace hc34 := hc34.keep (tk_same s39)
    replace h2 := h2.keep (tk_same s39)
    refine ⟨by show 3 ≤ sizeLine; decide, fun p40 np40 => ?_⟩
    obtain ⟨s40, eMn⟩ := mkLst np40
    generalize upd G39 p40 (.lst [.int (-2), c34, c39]) = G40 at s40 eMn ⊢
    replace ec15 := s40 _ _ ec15
    replace ec24 := s40 _ _ ec24
    replace eL := s40 _ _ eL
    replace hc34 := hc34.keep (tk_same s40)
    replace hc39 := hc39.keep (tk_same s40)
    have eM := eMn
    refine ⟨p25, p40, _, _, rfl, rfl, eL, eM, by show 4 + 3 ≤ sizeLine; decide, fun p41 np41 => ?_⟩
    obtain ⟨s41, eHn⟩ := mkLst np41
    generalize upd G40 p41 (.lst ([.ref c15, .int 6, .int 1, .ref c24] ++ [.int (-2), c34, c39])) = G41 at s41 eHn ⊢
    replace ec15 := s41 _ _ ec15
    replace ec24 := s41 _ _ ec24
    replace hc34 := hc34.keep (tk_same s41)
    replace hc39 := hc39.keep (tk_same s41)
    have eH := eHn
    -- due
    refine ⟨5, rfl, by show 2 ≤ sizeLine; decide, fun p42 np42 => ?_⟩
    obtain ⟨s42, r1n⟩ := mkInts (K := K) (xs := [.int 11, .int (-5)]) (ns := [11, -5]) rfl np42
    generalize upd G41 p42 (.tup [.int 11, .int (-5)]) = G42 at s42 r1n ⊢
    replace ec15 := s42 _ _ ec15
    replace ec24 := s42 _ _ ec24
    replace hc34 := hc34.keep (tk_same s42)
    replace hc39 := hc39.keep (tk_same s42)
    replace eH := s42 _ _ eH
    have r1 := r1n
    refine ⟨by show 1 ≤ sizeLine; decide, fun p43 np43 => ?_⟩
    obtain ⟨s43, r2n⟩ := mkInts (K := K) (xs := [.int 21]) (ns := [21]) rfl np43
    generalize upd G42 p43 (.tup [.int 21]) = G43 at s43 r2n ⊢
    replace ec15 := s43 _ _ ec15
    replace ec24 := s43 _ _ ec24
    replace hc34 := hc34.keep (tk_same s43)
    replace hc39 := hc39.keep (tk_same s43)
    replace eH := s43 _ _ eH
    replace r1 := r1.keep (tk_same s43)
    have r2 := r2n
    refine ⟨2, rfl, ?_⟩
    refine ⟨by show 3 ≤ sizeLine; decide, fun p44 np44 => ?_⟩
    obtain ⟨s44, w3n⟩ := mkInts (K := K) (xs := [.int 1, .int 1, .int 0]) (ns := [1, 1, 0]) rfl np44
    generalize upd G43 p44 (.tup [.int 1, .int 1, .int 0]) = G44 at s44 w3n ⊢
    replace ec15 := s44 _ _ ec15
    replace ec24 := s44 _ _ ec24
    replace hc34 := hc34.keep (tk_same s44)
    replace hc39 := hc39.keep (tk_same s44)
    replace eH := s44 _ _ eH
    replace r1 := r1.keep (tk_same s44)
    replace r2 := r2.keep (tk_same s44)
    have w3 := w3n
    refine ⟨1, rfl, by show 3 ≤ sizeLine; decide, fun p45 np45 => ?_⟩
    obtain ⟨s45, t3n⟩ := mkTerm (x := -1) (y := 0) w3 np45
    generalize upd G44 p45 (.tup [.ref p44, .int (-1), .int 0]) = G45 at s45 t3n ⊢
    replace ec15 := s45 _ _ ec15
    replace ec24 := s45 _ _ ec24
    replace hc34 := hc34.keep (tk_same s45)
    replace hc39 := hc39.keep (tk_same s45)
    replace eH := s45 _ _ eH
    replace r1 := r1.keep (tk_same s45)
    replace r2 := r2.keep (tk_same s45)
    replace w3 := w3.keep (tk_same s45)
    have t3 := t3n
    refine ⟨by show 1 ≤ sizeLine; decide, fun p46 np46 => ?_⟩
    obtain ⟨s46, z3n⟩ := mkTerms (K := K) (.cons t3 .nil) np46
    generalize upd G45 p46 (.tup [.ref p45]) = G46 at s46 z3n ⊢
    replace ec15 := s46 _ _ ec15
    replace ec24 := s46 _ _ ec24
    replace hc34 := hc34.keep (tk_same s46)
    replace hc39 := hc39.keep (tk_same s46)
    replace eH := s46 _ _ eH
    replace r1 := r1.keep (tk_same s46)
    replace r2 := r2.keep (tk_same s46)
    replace t3 := t3.keep (tk_same s46)
    have z3 := z3n
    refine ⟨by show 2 ≤ sizeLine; decide, fun p47 np47 => ?_⟩
    obtain ⟨s47, h3n⟩ := mkBill (own := 3) z3 np47
    generalize upd G46 p47 (.tup [.int 3, .ref p46]) = G47 at s47 h3n ⊢
    replace ec15 := s47 _ _ ec15
    replace ec24 := s47 _ _ ec24
    replace hc34 := hc34.keep (tk_same s47)
    replace hc39 := hc39.keep (tk_same s47)
    replace eH := s47 _ _ eH
    replace r1 := r1.keep (tk_same s47)
    replace r2 := r2.keep (tk_same s47)
    replace z3 := z3.keep (tk_same s47)
    have h3 := h3n
    refine ⟨by show 6 ≤ sizeLine; decide, fun p48 np48 => ?_⟩
    obtain ⟨s48, eLn⟩ := mkLst np48
    generalize upd G47 p48 (.lst [.ref p42, .int 6, .int 1, .ref p43, .int (-2), .ref p47]) = G48 at s48 eLn ⊢
    replace ec15 := s48 _ _ ec15
    replace ec24 := s48 _ _ ec24
    replace hc34 := hc34.keep (tk_same s48)
    replace hc39 := hc39.keep (tk_same s48)
    replace eH := s48 _ _ eH
    replace r1 := r1.keep (tk_same s48)
    replace r2 := r2.keep (tk_same s48)
    replace h3 := h3.keep (tk_same s48)
    have eL := eLn
    refine ⟨.ref p41, rfl, .ref p48, rfl, ?_⟩
    refine ⟨by show 1 ≤ sizeLine; decide, fun p49 np49 => ?_⟩
    obtain ⟨s49, wan⟩ := mkInts (K := K) (xs := [.int 2]) (ns := [2]) rfl np49
    generalize upd G48 p49 (.tup [.int 2]) = G49 at s49 wan ⊢
    replace ec15 := s49 _ _ ec15
    replace ec24 := s49 _ _ ec24
    replace hc34 := hc34.keep (tk_same s49)
    replace hc39 := hc39.keep (tk_same s49)
    replace eH := s49 _ _ eH
    replace r1 := r1.keep (tk_same s49)
    replace r2 := r2.keep (tk_same s49)
    replace h3 := h3.keep (tk_same s49)
    replace eL := s49 _ _ eL
    have wa := wan
    refine ⟨by show 3 ≤ sizeLine; decide, fun p50 np50 => ?_⟩
    obtain ⟨s50, tan⟩ := mkTerm (x := 1) (y := 0) wa np50
    generalize upd G49 p50 (.tup [.ref p49, .int 1, .int 0]) = G50 at s50 tan ⊢
    replace ec15 := s50 _ _ ec15
    replace ec24 := s50 _ _ ec24
    replace hc34 := hc34.keep (tk_same s50)
    replace hc39 := hc39.keep (tk_same s50)
    replace eH := s50 _ _ eH
    replace r1 := r1.keep (tk_same s50)
    replace r2 := r2.keep (tk_same s50)
    replace h3 := h3.keep (tk_same s50)
    replace eL := s50 _ _ eL
    replace wa := wa.keep (tk_same s50)
    have ta := tan
    refine ⟨by show 3 ≤ sizeLine; decide, fun p51 np51 => ?_⟩
    obtain ⟨s51, wbn⟩ := mkInts (K := K) (xs := [.int 1, .int 1, .int 0]) (ns := [1, 1, 0]) rfl np51
    generalize upd G50 p51 (.tup [.int 1, .int 1, .int 0]) = G51 at s51 wbn ⊢
    replace ec15 := s51 _ _ ec15
    replace ec24 := s51 _ _ ec24
    replace hc34 := hc34.keep (tk_same s51)
    replace hc39 := hc39.keep (tk_same s51)
    replace eH := s51 _ _ eH
    replace r1 := r1.keep (tk_same s51)
    replace r2 := r2.keep (tk_same s51)
    replace h3 := h3.keep (tk_same s51)
    replace eL := s51 _ _ eL
    replace ta := ta.keep (tk_same s51)
    have wb := wbn
    refine ⟨1, rfl, by show 3 ≤ sizeLine; decide, fun p52 np52 => ?_⟩
    obtain ⟨s52, tbn⟩ := mkTerm (x := -1) (y := 0) wb np52
    generalize upd G51 p52 (.tup [.ref p51, .int (-1), .int 0]) = G52 at s52 tbn ⊢
    replace ec15 := s52 _ _ ec15
    replace ec24 := s52 _ _ ec24
    replace hc34 := hc34.keep (tk_same s52)
    replace hc39 := hc39.keep (tk_same s52)
    replace eH := s52 _ _ eH
    replace r1 := r1.keep (tk_same s52)
    replace r2 := r2.keep (tk_same s52)
    replace h3 := h3.keep (tk_same s52)
    replace eL := s52 _ _ eL
    replace ta := ta.keep (tk_same s52)
    replace wb := wb.keep (tk_same s52)
    have tb := tbn
    refine ⟨by show 2 ≤ sizeLine; decide, fun p53 np53 => ?_⟩
    obtain ⟨s53, zzn⟩ := mkTerms (K := K) (.cons ta (.cons tb .nil)) np53
    generalize upd G52 p53 (.tup [.ref p50, .ref p52]) = G53 at s53 zzn ⊢
    replace ec15 := s53 _ _ ec15
    replace ec24 := s53 _ _ ec24
    replace hc34 := hc34.keep (tk_same s53)
    replace hc39 := hc39.keep (tk_same s53)
    replace eH := s53 _ _ eH
    replace r1 := r1.keep (tk_same s53)
    replace r2 := r2.keep (tk_same s53)
    replace h3 := h3.keep (tk_same s53)
    replace eL := s53 _ _ eL
    replace ta := ta.keep (tk_same s53)
    replace tb := tb.keep (tk_same s53)
    have zz := zzn
    refine ⟨by show 2 ≤ sizeLine; decide, fun p54 np54 => ?_⟩
    obtain ⟨s54, h4n⟩ := mkBill (own := 3) zz np54
    generalize upd G53 p54 (.tup [.int 3, .ref p53]) = G54 at s54 h4n ⊢
    replace ec15 := s54 _ _ ec15
    replace ec24 := s54 _ _ ec24
    replace hc34 := hc34.keep (tk_same s54)
    replace hc39 := hc39.keep (tk_same s54)
    replace eH := s54 _ _ eH
    replace r1 := r1.keep (tk_same s54)
    replace r2 := r2.keep (tk_same s54)
    replace h3 := h3.keep (tk_same s54)
    replace eL := s54 _ _ eL
    replace zz := zz.keep (tk_same s54)
    have h4 := h4n
    refine ⟨by show 1 ≤ sizeLine; decide, fun p55 np55 => ?_⟩
    obtain ⟨s55, eMn⟩ := mkLst np55
    generalize upd G54 p55 (.lst [.ref p54]) = G55 at s55 eMn ⊢
    replace ec15 := s55 _ _ ec15
    replace ec24 := s55 _ _ ec24
    replace hc34 := hc34.keep (tk_same s55)
    replace hc39 := hc39.keep (tk_same s55)
    replace eH := s55 _ _ eH
    replace r1 := r1.keep (tk_same s55)
    replace r2 := r2.keep (tk_same s55)
    replace h3 := h3.keep (tk_same s55)
    replace eL := s55 _ _ eL
    replace h4 := h4.keep (tk_same s55)
    have eM := eMn
    refine ⟨p48, p55, _, _, rfl, rfl, eL, eM, by show 6 + 1 ≤ sizeLine; decide, fun p56 np56 => ?_⟩
    obtain ⟨s56, eLn⟩ := mkLst np56
    generalize upd G55 p56 (.lst ([.ref p42, .int 6, .int 1, .ref p43, .int (-2), .ref p47] ++ [.ref p54])) = G56 at s56 eLn ⊢
    replace ec15 := s56 _ _ ec15
    replace ec24 := s56 _ _ ec24
    replace hc34 := hc34.keep (tk_same s56)
    replace hc39 := hc39.keep (tk_same s56)
    replace eH := s56 _ _ eH
    replace r1 := r1.keep (tk_same s56)
    replace r2 := r2.keep (tk_same s56)
    replace h3 := h3.keep (tk_same s56)
    replace h4 := h4.keep (tk_same s56)
    have eL := eLn
    have d1 : Dp K G56 (.ref p41) endD := .lst (sqL_of eH) (.cons (.tup (sqT_of ec15) (dp_ints [11, -5])) (.cons (.int _) (.cons (.int _) (.cons (.tup (sqT_of ec24) (dp_ints [21])) (.cons (.int _) (.cons hc34.dp (.cons hc39.dp .nil)))))))
    have d2 : Dp K G56 (.ref p56) endD := .lst (sqL_of eL) (.cons r1.dp (.cons (.int _) (.cons (.int _) (.cons r2.dp (.cons (.int _) (.cons h3.dp (.cons h4.dp .nil)))))))
    refine ⟨endD, endD, d1, d2, endD_ok, endD_ok, ?_⟩
    show Q (.bl (PyData.eqv endD endD)) _
    rw [endD_eq]
    exact q _
end
end Bo
namespace Bo
open PySem PySem.Spec PyProof.Rows L2
theorem txt_of {K : PySem.W.Frag} {h : Heap} {mg : Str → Option Value} (X : K.In h) (G : h.Ns mainGlobals mg) (c : He.SaysD faL fnL K) : Txt K mg where
  b_isinstance := He.free_ok X G (c.fact 28 (f := .free "isinstance") rfl)
  b_int := He.free_ok X G (c.fact 29 (f := .free "int") rfl)
  b_bool := He.free_ok X G (c.fact 30 (f := .free "bool") rfl)
  b_tuple := He.free_ok X G (c.fact 31 (f := .free "tuple") rfl)
  b_enumerate := He.free_ok X G (c.fact 32 (f := .free "enumerate") rfl)
  b_len := He.free_ok X G (c.fact 33 (f := .free "len") rfl)
  b_zip := He.free_ok X G (c.fact 34 (f := .free "zip") rfl)
  b_sorted := He.free_ok X G (c.fact 35 (f := .free "sorted") rfl)
  b_sum := He.free_ok X G (c.fact 36 (f := .free "sum") rfl)
  b_max := He.free_ok X G (c.fact 37 (f := .free "max") rfl)
  b_min := He.free_ok X G (c.fact 38 (f := .free "min") rfl)
  b_range := He.free_ok X G (c.fact 39 (f := .free "range") rfl)
  b_list := He.free_ok X G (c.fact 40 (f := .free "list") rfl)
  b_repr := He.free_ok X G (c.fact 41 (f := .free "repr") rfl)
  c_MOST_RESULT := He.int_ok X G (c.fact 42 (f := .int "MOST_RESULT" 1000000) rfl)
  c_MOST_RESULTS := He.int_ok X G (c.fact 43 (f := .int "MOST_RESULTS" 200) rfl)
  c_MOST_WEIGHTS := He.int_ok X G (c.fact 44 (f := .int "MOST_WEIGHTS" 6) rfl)
  c_MOST_WEIGHT := He.int_ok X G (c.fact 45 (f := .int "MOST_WEIGHT" 20) rfl)
  c_MOST_OWN := He.int_ok X G (c.fact 46 (f := .int "MOST_OWN" 50) rfl)
  c_MOST_TERMS := He.int_ok X G (c.fact 47 (f := .int "MOST_TERMS" 2) rfl)
  d_is_whole := by
    obtain ⟨fd, F⟩ := c.def_ 0 (d := ⟨("is_whole", none), "is_whole", "is_whole", defArgs s_is_whole, defBody s_is_whole, defScope s_is_whole, [], []⟩) rfl
    exact ⟨_, fd, He.glo_ok X G (c.fact 0 (f := .glo "is_whole") rfl), F⟩
  d_first_wrong := by
    obtain ⟨fd, F⟩ := c.def_ 1 (d := ⟨("first_wrong", none), "first_wrong", "first_wrong", defArgs s_first_wrong, defBody s_first_wrong, defScope s_first_wrong, [], []⟩) rfl
    exact ⟨_, fd, He.glo_ok X G (c.fact 1 (f := .glo "first_wrong") rfl), F⟩
  d_is_rule := by
    obtain ⟨fd, F⟩ := c.def_ 2 (d := ⟨("is_rule", none), "is_rule", "is_rule", defArgs s_is_rule, defBody s_is_rule, defScope s_is_rule, [], []⟩) rfl
    exact ⟨_, fd, He.glo_ok X G (c.fact 2 (f := .glo "is_rule") rfl), F⟩
  d_need_row := by
    obtain ⟨fd, F⟩ := c.def_ 3 (d := ⟨("need_row", none), "need_row", "need_row", defArgs s_need_row, defBody s_need_row, defScope s_need_row, [], []⟩) rfl
    exact ⟨_, fd, He.glo_ok X G (c.fact 3 (f := .glo "need_row") rfl), F⟩
  d_index_in := by
    obtain ⟨fd, F⟩ := c.def_ 4 (d := ⟨("index_in", none), "index_in", "index_in", defArgs s_index_in, defBody s_index_in, defScope s_index_in, [], []⟩) rfl
    exact ⟨_, fd, He.glo_ok X G (c.fact 4 (f := .glo "index_in") rfl), F⟩
  d_need_long_row := by
    obtain ⟨fd, F⟩ := c.def_ 5 (d := ⟨("need_long_row", none), "need_long_row", "need_long_row", defArgs s_need_long_row, defBody s_need_long_row, defScope s_need_long_row, [], []⟩) rfl
    exact ⟨_, fd, He.glo_ok X G (c.fact 5 (f := .glo "need_long_row") rfl), F⟩
  d_is_term := by
    obtain ⟨fd, F⟩ := c.def_ 6 (d := ⟨("is_term", none), "is_term", "is_term", defArgs s_is_term, defBody s_is_term, defScope s_is_term, [], []⟩) rfl
    exact ⟨_, fd, He.glo_ok X G (c.fact 6 (f := .glo "is_term") rfl), F⟩
  d_fault_of := by
    obtain ⟨fd, F⟩ := c.def_ 7 (d := ⟨("fault_of", none), "fault_of", "fault_of", defArgs s_fault_of, defBody s_fault_of, defScope s_fault_of, [], []⟩) rfl
    exact ⟨_, fd, He.glo_ok X G (c.fact 7 (f := .glo "fault_of") rfl), F⟩
  d_need_bill := by
    obtain ⟨fd, F⟩ := c.def_ 8 (d := ⟨("need_bill", none), "need_bill", "need_bill", defArgs s_need_bill, defBody s_need_bill, defScope s_need_bill, [], []⟩) rfl
    exact ⟨_, fd, He.glo_ok X G (c.fact 8 (f := .glo "need_bill") rfl), F⟩
  d_width_of := by
    obtain ⟨fd, F⟩ := c.def_ 9 (d := ⟨("width_of", none), "width_of", "width_of", defArgs s_width_of, defBody s_width_of, defScope s_width_of, [], []⟩) rfl
    exact ⟨_, fd, He.glo_ok X G (c.fact 9 (f := .glo "width_of") rfl), F⟩
  d_paid_at := by
    obtain ⟨fd, F⟩ := c.def_ 10 (d := ⟨("paid_at", none), "paid_at", "paid_at", defArgs s_paid_at, defBody s_paid_at, defScope s_paid_at, [], []⟩) rfl
    exact ⟨_, fd, He.glo_ok X G (c.fact 10 (f := .glo "paid_at") rfl), F⟩
  d_pays_in := by
    obtain ⟨fd, F⟩ := c.def_ 11 (d := ⟨("pays_in", none), "pays_in", "pays_in", defArgs s_pays_in, defBody s_pays_in, defScope s_pays_in, [], []⟩) rfl
    exact ⟨_, fd, He.glo_ok X G (c.fact 11 (f := .glo "pays_in") rfl), F⟩
  d_width := by
    obtain ⟨fd, F⟩ := c.def_ 12 (d := ⟨("width", none), "width", "width", defArgs s_width, defBody s_width, defScope s_width, [], []⟩) rfl
    exact ⟨_, fd, He.glo_ok X G (c.fact 12 (f := .glo "width") rfl), F⟩
  d_pays := by
    obtain ⟨fd, F⟩ := c.def_ 13 (d := ⟨("pays", none), "pays", "pays", defArgs s_pays, defBody s_pays, defScope s_pays, [], []⟩) rfl
    exact ⟨_, fd, He.glo_ok X G (c.fact 13 (f := .glo "pays") rfl), F⟩
  d_worth := by
    obtain ⟨fd, F⟩ := c.def_ 14 (d := ⟨("worth", none), "worth", "worth", defArgs s_worth, defBody s_worth, defScope s_worth, [], []⟩) rfl
    exact ⟨_, fd, He.glo_ok X G (c.fact 14 (f := .glo "worth") rfl), F⟩
  d_added := by
    obtain ⟨fd, F⟩ := c.def_ 15 (d := ⟨("added", none), "added", "added", defArgs s_added, defBody s_added, defScope s_added, [], []⟩) rfl
    exact ⟨_, fd, He.glo_ok X G (c.fact 15 (f := .glo "added") rfl), F⟩
  d_law_begun := by
    obtain ⟨fd, F⟩ := c.def_ 16 (d := ⟨("_law_begun", none), "_law_begun", "_law_begun", defArgs s_law_begun, defBody s_law_begun, defScope s_law_begun, [], []⟩) rfl
    exact ⟨_, fd, He.glo_ok X G (c.fact 16 (f := .glo "_law_begun") rfl), F⟩
  d_law_draw := by
    obtain ⟨fd, F⟩ := c.def_ 17 (d := ⟨("_law_draw", none), "_law_draw", "_law_draw", defArgs s_law_draw, defBody s_law_draw, defScope s_law_draw, [], []⟩) rfl
    exact ⟨_, fd, He.glo_ok X G (c.fact 17 (f := .glo "_law_draw") rfl), F⟩
  d_law_of := by
    obtain ⟨fd, F⟩ := c.def_ 18 (d := ⟨("_law_of", none), "_law_of", "_law_of", defArgs s_law_of, defBody s_law_of, defScope s_law_of, [], []⟩) rfl
    exact ⟨_, fd, He.glo_ok X G (c.fact 18 (f := .glo "_law_of") rfl), F⟩
  d_law_weights := by
    obtain ⟨fd, F⟩ := c.def_ 19 (d := ⟨("_law_weights", none), "_law_weights", "_law_weights", defArgs s_law_weights, defBody s_law_weights, defScope s_law_weights, [], []⟩) rfl
    exact ⟨_, fd, He.glo_ok X G (c.fact 19 (f := .glo "_law_weights") rfl), F⟩
  d_law_drawn_bill := by
    obtain ⟨fd, F⟩ := c.def_ 20 (d := ⟨("_law_drawn_bill", none), "_law_drawn_bill", "_law_drawn_bill", defArgs s_law_drawn_bill, defBody s_law_drawn_bill, defScope s_law_drawn_bill, [], []⟩) rfl
    exact ⟨_, fd, He.glo_ok X G (c.fact 20 (f := .glo "_law_drawn_bill") rfl), F⟩
  d_law_drawn_row := by
    obtain ⟨fd, F⟩ := c.def_ 21 (d := ⟨("_law_drawn_row", none), "_law_drawn_row", "_law_drawn_row", defArgs s_law_drawn_row, defBody s_law_drawn_row, defScope s_law_drawn_row, [], []⟩) rfl
    exact ⟨_, fd, He.glo_ok X G (c.fact 21 (f := .glo "_law_drawn_row") rfl), F⟩
  d_law_index := by
    obtain ⟨fd, F⟩ := c.def_ 22 (d := ⟨("_law_index", none), "_law_index", "_law_index", defArgs s_law_index, defBody s_law_index, defScope s_law_index, [], []⟩) rfl
    exact ⟨_, fd, He.glo_ok X G (c.fact 22 (f := .glo "_law_index") rfl), F⟩
  d_law_wide := by
    obtain ⟨fd, F⟩ := c.def_ 23 (d := ⟨("_law_wide", none), "_law_wide", "_law_wide", defArgs s_law_wide, defBody s_law_wide, defScope s_law_wide, [], []⟩) rfl
    exact ⟨_, fd, He.glo_ok X G (c.fact 23 (f := .glo "_law_wide") rfl), F⟩
  d_law_paid := by
    obtain ⟨fd, F⟩ := c.def_ 24 (d := ⟨("_law_paid", none), "_law_paid", "_law_paid", defArgs s_law_paid, defBody s_law_paid, defScope s_law_paid, [], []⟩) rfl
    exact ⟨_, fd, He.glo_ok X G (c.fact 24 (f := .glo "_law_paid") rfl), F⟩
  d_law_right := by
    obtain ⟨fd, F⟩ := c.def_ 25 (d := ⟨("_law_right", none), "_law_right", "_law_right", defArgs s_law_right, defBody s_law_right, defScope s_law_right, [], []⟩) rfl
    exact ⟨_, fd, He.glo_ok X G (c.fact 25 (f := .glo "_law_right") rfl), F⟩
  d_law_sum_right := by
    obtain ⟨fd, F⟩ := c.def_ 26 (d := ⟨("_law_sum_right", none), "_law_sum_right", "_law_sum_right", defArgs s_law_sum_right, defBody s_law_sum_right, defScope s_law_sum_right, [], []⟩) rfl
    exact ⟨_, fd, He.glo_ok X G (c.fact 26 (f := .glo "_law_sum_right") rfl), F⟩
  d_law := by
    obtain ⟨fd, F⟩ := c.def_ 27 (d := ⟨("law", none), "law", "law", defArgs s_law, defBody s_law, defScope s_law, [], []⟩) rfl
    exact ⟨_, fd, He.glo_ok X G (c.fact 27 (f := .glo "law") rfl), F⟩
theorem facts {P : Program} {w : World} {K : PySem.W.Frag} {h : Heap} {mg : Str → Option Value} {fa : Addr} (X : K.In h) (G : h.Ns mainGlobals mg) (hfa : mg ("law" : Str) = some (.ref fa)) (c : He.SaysD faL fnL K) :
    ∃ fd : FuncData, (∀ (s : Shared) (v : Value), BindsTo s fd ⟨[v], []⟩ [("script", v)]) ∧ ∀ base : Heap, FnG P w K mg base 11 fa fd ["script"] (sp_law K) := by
  have T := txt_of X G c
  obtain ⟨f, fd, g, F⟩ := T.d_law
  have e := hfa.symm.trans g
  cases e
  have b := FunD.bindsA (ps := ["script"]) F fun _ _ _ _ _ _ us hl => match us, hl with | [_], _ => rfl
  exact ⟨fd, fun s v => b s [v] rfl, fun base => fn_law T F⟩
end Bo
open PySem PySem.W PySem.Calls PyProof.Rows
set_option maxHeartbeats 0 in
theorem PySem.Challenge.cw_bestoflast_k05_whole_bills_holds : PySem.Challenge.rw_bestoflast_k05_whole_bills.Holds := by
  w_on; o_law
  refine HandSHeadRun.head_any (r := OpenLaw.row PySem.Challenge.rw_bestoflast_k05_whole_bills) (q := view (OpenLaw.row PySem.Challenge.rw_bestoflast_k05_whole_bills).prog [41]) (H := Bo.hk) (ob := Bo.ob) (M := 3000) (loose := Bo.looseL)
    (d := HandSHeadRun.topDef (OpenLaw.row PySem.Challenge.rw_bestoflast_k05_whole_bills).prog 41) (kwd := []) Bo.ob_eq
    (by kernel_rfl) (fun s => by kernel_rfl) Bo.run (by kernel_rfl) (by kernel_rfl) (by kernel_rfl) (by rfl) (by first | assumption | decide +kernel) (by decide +kernel) ⟨rfl, rfl, rfl, rfl, rfl, by decide +kernel⟩ ?hw ?hc
  case hw => w_witness2
  case hc =>
    refine Bo.walk_ofG (l := PySem.Challenge.rw_bestoflast_k05_whole_bills) (n := 63) (k := 11) (x := "script") rfl (by decide) (by kernel_rfl) ⟨rfl, by decide, by decide⟩ ?F
    intro w mg fa h Y G hmg0
    obtain ⟨K, KX, c⟩ := Y
    have hmg : mg ("law" : PySem.Str) = some (.ref fa) := by
      have e : (HandSHeadRun.topDef (OpenLaw.row PySem.Challenge.rw_bestoflast_k05_whole_bills).prog 41).name = ("law" : PySem.Str) := by kernel_rfl
      rw [← e]
      exact hmg0
    obtain ⟨fd, hb, hF⟩ := Bo.facts (P := (PySem.Challenge.rw_bestoflast_k05_whole_bills).prog) (w := w) KX G hmg c
    exact ⟨K, fd, Bo.sp_law K, KX, hb, fun H a ns hl _ hS => ⟨a, ns, rfl, hS, hl, fun _ => rfl⟩, fun base _ _ => hF base⟩
