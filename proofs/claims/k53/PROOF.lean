import PyProof.Rows.All
import Wide.All
import OpenK.AllK
import Wide.FinOn
import HandS.ForMost
import HandS.Wide
import HandS.Gcd
import HandS.IsInst
import HandS.SetFor
import HandS.Strs
import HandS.TupMul
import KE.KMathGC
import KE.KTupSum
import KE.GoesMore
import PyProof.FactsAll.tuple_2
import KE.KDictWalk
import HandS.Walk
import KE.KDictKeyed
import KE.KeyNested
import HandS.DictComp
import KE.KDictDisplayH
import PySem.Challenge.RW_swapsheets_k53_whole_genus_and_all_ones
import HandS.Slots
import HandS.Style
import HandS.Star
import HandS.TupAny
import HandS.Zip
import HandS.Deep
import HandS.Defaults
set_option Elab.async false
set_option linter.all false
set_option maxRecDepth 100000
set_option maxHeartbeats 4000000
/-! R1: rules by values that the layer lacks (comb, tuple.count, set of a tuple, sum of a tuple, tuple times one, the read of xs[i] += e). -/
namespace K53
open PySem PySem.Spec PyProof.Rows L2
section
variable {X : Cx}
/-- math.comb of two ints, not negative -/
def rComb : List V → Hp → VK → Prop := fun vs H Q => ∃ a b : Int, vs = [.int a, .int b] ∧ 0 ≤ a ∧ 0 ≤ b ∧ a < 1000 ∧ Q (.int (PySem.W.mcComb a b)) H
theorem cr_comb : CallR X (.builtin "math.comb") rComb := by
  intro pins s σ H vs us Q I r h
  obtain ⟨a, b, rfl, h1, h2, h3, q⟩ := h
  obtain ⟨t, u, rfl⟩ := Vals.int2 r
  exact PySem.W.mc_comb h1 h2 (by omega) (.inr (by omega)) fun _ => ⟨.int _, H, I.tok _, ⟨_, rfl⟩, q⟩
/-- t.count(k) of a tuple of ints -/
def rCntT (K : PySem.W.Frag) : V → List V → Hp → VK → Prop := fun x xs H Q => ∃ (p : Addr) (ns : List Int) (k : Int), x = .ref p ∧ xs = [.int k] ∧ SqT K H p (ns.map V.int) ∧ Q (.int (ns.count k : Nat)) H
theorem mt_tcount : MtR X "tuple.count" (rCntT X.K) := by
  intro pins s σ H x xs v us Q I rx rxs h
  obtain ⟨p, ns, k, rfl, rfl, hs, q⟩ := h
  cases rx
  obtain ⟨u, rfl, t, rfl⟩ := rxs.one
  obtain ⟨its, rv, ⟨⟨cls, dd, data, sl⟩, ho, hc, n, hd⟩, hlen⟩ := I.tuple hs
  simp only at hc hd
  subst hc hd
  have hi := ints_of_vals rv
  refine call_meets PySem.F.slot_tuple_count ⟨_, ho, rfl⟩ PySem.F.entry_tuple_count (PySem.F.args_tuple_count_2 _ _)
    (SeqAt.tuple_countAt p its.toArray n dd sl (.int k t) (eqk k)) ⟨ho, fun y hy => (eqk_gives hi y (by simpa using hy)).at _ _, ?_⟩
  have ec : its.toArray.toList.countP (eqk k) = ns.count k := eqk_count hi
  refine ⟨V.int (ns.count k : Nat), H, I.tok _, ⟨s.toks, ?_⟩, q⟩
  rw [ec]
/-- sum(t) of a tuple of ints -/
def rSumT (K : PySem.W.Frag) : List V → Hp → VK → Prop := fun vs H Q => ∃ (a : Addr) (ns : List Int), vs = [V.ref a] ∧ SqT K H a (ns.map V.int) ∧ Q (.int ns.sum) H
theorem cr_sumT (hc : X.calm = true) : CallR X (.builtin "sum") (rSumT X.K) := by
  intro pins s σ H vs us Q I r h
  obtain ⟨a, ns, rfl, hs, q⟩ := h
  obtain ⟨its, rv, ht, _⟩ := I.tuple hs
  rw [Vals.ref1 r]
  have hi := rv.ints
  obtain ⟨xs, e⟩ := hi.allInts.items
  have hn : numsOf (intItems xs).toList = ns := by rw [← e]; exact hi.numsOf
  rw [nums_intItems] at hn
  have ht' : s.heap.IsTuple a (intItems xs) := by rw [← e]; exact ht
  refine PySem.W.ktm_sumG (I.ok.hd hc) ht' fun h' tk t' hk => ?_
  refine ⟨.int ns.sum, H, I.kept hk, ⟨t', ?_⟩, q⟩
  rw [preSum_eq, List.take_of_length_le (by simp), hn]
/-- set(t) of a tuple of ints -/
def rSetI (K : PySem.W.Frag) (w : World) : List V → Hp → VK → Prop := fun vs H Q => ∃ (a : Addr) (ns : List Int), vs = [V.ref a] ∧ SqT K H a (ns.map V.int) ∧ ns.length ≤ 60 ∧
  ∀ (p : Addr) (n : Nat), H p = none → n ≤ ns.length → Q (.ref p) (upd H p (SetO w p (fun j => decide (j ∈ ns)) n))
theorem cr_setI (hc : X.calm = true) : CallR X (.type "set") (rSetI X.K X.w) := by
  intro pins s σ H vs us Q I r h
  obtain ⟨a, ns, rfl, hs, hl, q⟩ := h
  obtain ⟨its, rv, ht, _⟩ := I.tuple hs
  rw [Vals.ref1 r]
  have hi := ints_of_vals rv
  refine call_set_tupI ns (I.ok.hd hc) ht (by simpa using hi) (by have : 100 < scanBound := by decide
                                                                  omega) fun h' tk c hS hle hk => ?_
  exact ⟨.ref s.heap.objs.size, _, I.laid hk (Nat.le_refl _) (setO_new hS), rfl, q _ c (I.hok.fresh (Nat.le_refl _)) hle⟩
/-- xs[i], by values, for xs[i] op= e (i not negative) -/
def gIxL (K : PySem.W.Frag) : V → V → Hp → VK → Prop := fun x y H Q => ∃ (p : Addr) (xs : List V) (j : Nat) (v : V), x = .ref p ∧ y = .int (j : Nat) ∧ SqL K H p xs ∧ xs[j]? = some v ∧ Q v H
theorem get_list : PGet X (gIxL X.K) := by
  intro pins s σ H o i ov iv Q I ro ri h
  obtain ⟨p, xs, j, z, rfl, rfl, hq, he, q⟩ := h
  cases ro
  obtain ⟨t, rfl⟩ := ri
  obtain ⟨its, r, pl, hz⟩ := I.list hq
  obtain ⟨v, ev, rv⟩ := r.get he
  have hj : j < xs.length := (List.getElem?_eq_some_iff.mp he).1
  have hn := line63
  exact wpAny_getItem_list pl.isList (by omega) (by omega) (by simpa using ev) ⟨z, H, I, rv, q⟩
theorem tup_mul1 (l : Addr) (items : Array Value) (n : Nat) (dd : Option Addr) (sl : Array (Option Value)) (u : Tok) :
    Meets (Builtin.«tuple.__mul__» ⟨[.ref l, .int 1 u], []⟩) (fun _ R s => s.heap.get? l = some { cls := .type "tuple", dict := dd, data := .seq items n, slots := sl } ∧ R (.ok (.ret (Value.ref l))) s) :=
  .of_wp fun prog w A R s h => by
    obtain ⟨hp, g, d, tk, os⟩ := s
    obtain ⟨hl, h⟩ := h
    have f1 := AutoSeq1.idx_int
    wp_walk using wpAny_loadPart' hl
    exact ⟨_, rfl, h⟩
/-- t * 1 is t -/
def rMulT1 (K : PySem.W.Frag) : R2 := fun x y H Q => ∃ (l : Addr) (xs : List V), x = .ref l ∧ y = .int 1 ∧ SqT K H l xs ∧ Q (.ref l) H
theorem op_mulT1 : OpR X (binaryOp .Mult) (rMulT1 X.K) := by
  intro pins s σ H x y v u Q I rx ry h
  obtain ⟨l, xs, rfl, rfl, hT, q⟩ := h
  cases rx
  obtain ⟨t, rfl⟩ := ry
  obtain ⟨its, r, ⟨⟨cls, dd, data, sl⟩, ho, hc, n, hd⟩, hs⟩ := I.tuple hT
  simp only at hc hd
  subst hc hd
  exact wpAny_binaryOp_repeat_ref (T := "tuple") (U := "int") (by decide) ⟨_, ho, rfl⟩ (fun s' => typeIs_int s' 1 t) noFill_tuple_mul F.fills_int_mul F.slot_int_rmul repeat_tuple F.slot_int_index.lookup
    (call_meets F.slot_int_rmul (typeIs_int s 1 t) F.entry_int_rmul (F.args_int_rmul_2 _ _) (int_rmul_tuple 1 t l its.toArray n dd sl)
      ⟨ho, rfl, ⟨_, ho, rfl⟩, call_meets F.slot_tuple_mul ⟨_, ho, rfl⟩ F.entry_tuple_mul (F.args_tuple_mul_2 _ _) (tup_mul1 l its.toArray n dd sl t) ⟨ho, .ref l, H, I, rfl, q⟩⟩)
/-- t * k, k at least 1 -/
def rMulT (K : PySem.W.Frag) : R2 := fun x y H Q => ∃ (l : Addr) (k : Int) (xs : List V), x = .ref l ∧ y = .int k ∧ SqT K H l xs ∧ xs ≠ [] ∧ 1 ≤ k ∧ k ≤ 1000 ∧ xs.length ≤ 1000 ∧
  (k = 1 → Q (.ref l) H) ∧ (k ≠ 1 → ∀ p, H p = none → Q (.ref p) (upd H p (.tup (List.replicate k.toNat xs).flatten)))
theorem op_mulT : OpR X (binaryOp .Mult) (rMulT X.K) := by
  intro pins s σ H x y v u Q I rx ry h
  obtain ⟨l, k, xs, rfl, rfl, hT, hne, h1, h2, h3, q1, q2⟩ := h
  by_cases e : k = 1
  · subst e
    exact op_mulT1 pins s σ H _ _ v u Q I rx ry ⟨l, xs, rfl, rfl, hT, q1 rfl⟩
  · exact op_repT pins s σ H _ _ v u Q I rx ry ⟨l, k, xs, rfl, rfl, hT, hne, by omega, h2, h3, q2 e⟩
end
end K53
/-! R2: what a for walks, beyond the layer: enumerate of a tuple; the items of a dict with tuple keys. -/
namespace K53
open PySem PySem.Spec PyProof.Rows L2
open AutoSeq1 (wpAny_loadPart')
theorem enumT_new (l : Addr) (zs : Array Value) (n : Nat) (dct : Option Addr) (sl : Array (Option Value)) :
    Meets (Builtin.«enumerate.__new__» ⟨[.type "enumerate", .ref l], []⟩) (fun _ R s => s.heap.get? l = some { cls := .type "tuple", dict := dct, data := .seq zs n, slots := sl } ∧
      R (.ok (.ret (.ref (s.heap.push { cls := .type "tuple_iterator", data := .fields #[.ref l, .int 0 0] }).objs.size)))
        { s with heap := (s.heap.push { cls := .type "tuple_iterator", data := .fields #[.ref l, .int 0 0] }).push { cls := .type "enumerate", data := .fields #[.none, .bool false, .ref s.heap.objs.size, rawInt 0, .none, .none] } }) :=
  .of_wp fun prog w A R s h => by
    obtain ⟨hp, g, d, tk, os⟩ := s
    obtain ⟨hl, h⟩ := h
    have hsub := sub_enumerate
    have hT : Heap.IsTuple (Shared.heap ⟨hp, g, d, tk, os⟩) l zs := ⟨_, hl, rfl, n, rfl⟩
    wp_walk using wpAny_loadPart' hl
    refine wpAny_stack_any fun st => wpAny_pure ?_
    split
    · rename_i c _ _ _ _ _
      cases (c == Value.type "enumerate")
      all_goals
        wp_walk using wpAny_loadPart' hl, wpAny_pyIter_tuple hT
        exact ⟨_, rfl, h⟩
    · wp_walk using wpAny_loadPart' hl, wpAny_pyIter_tuple hT
      exact ⟨_, rfl, h⟩
section
variable {prog : Program} {w : World} {A : Around} {E : Value → Shared → Prop} {s : Shared}
theorem call_enumT {l : Addr} {zs : Array Value} {Q : Value → Shared → Prop} (hT : s.heap.IsTuple l zs)
    (h : ∀ h', IsEnum h' (s.heap.objs.size + 1) s.heap.objs.size 0 .none → h'.IsTupleIter s.heap.objs.size l 0 → (∀ b o, s.heap.get? b = some o → h'.get? b = some o) → Q (.ref (s.heap.objs.size + 1)) { s with heap := h' }) :
    wpAny (model prog w) A (call (.type "enumerate") [.ref l]) Q E s := by
  obtain ⟨⟨c, dct, dt, sl⟩, hl, hc, n, hd⟩ := hT
  simp only at hc hd
  subst hc hd
  refine callType_new F.called_enumerate (by decide) (F.typeCall_enumerate_1 _) (F.newCall_enumerate_1 _) (fun obj => F.args_object_init_2 obj _) F.entry_enumerate_new (enumT_new l zs n dct sl) ⟨hl, ?_⟩
  have hz : (s.heap.push { cls := .type "tuple_iterator", data := .fields #[.ref l, .int 0 0] }).objs.size = s.heap.objs.size + 1 := Heap.size_push ..
  show _ ∧ _
  rw [hz]
  have he : IsEnum ((s.heap.push { cls := .type "tuple_iterator", data := .fields #[.ref l, .int 0 0] }).push { cls := .type "enumerate", data := .fields #[.none, .bool false, .ref s.heap.objs.size, rawInt 0, .none, .none] })
      (s.heap.objs.size + 1) s.heap.objs.size 0 .none := by
    have q := Heap.get?_push_size (s.heap.push { cls := .type "tuple_iterator", data := .fields #[.ref l, .int 0 0] }) (o := { cls := .type "enumerate", data := .fields #[.none, .bool false, .ref s.heap.objs.size, rawInt 0, .none, .none] }) rfl
    rw [hz] at q
    exact q
  exact ⟨⟨_, he, rfl⟩, h _ he ⟨_, Heap.get?_push_of_some _ (Heap.get?_push_size _ rfl), rfl, rfl⟩ fun b o q => Heap.get?_push_of_some _ (Heap.get?_push_of_some _ q)⟩
end
/-- enumerate of the tuple at a -/
def IteT (K : PySem.W.Frag) (a : Addr) : It :=
  ⟨fun i H => ∃ (xs : List V) (x : V), SqT K H a xs ∧ xs[i]? = some x,
   fun i H v H' => ∃ T x, v = .ref T ∧ H T = none ∧ H' = upd H T (.tup [.int (i : Nat), x]) ∧ ∀ xs, SqT K H a xs → xs[i]? = some x,
   fun i H => ∃ xs : List V, SqT K H a xs ∧ xs.length = i⟩
theorem turn_enumT {P : Program} {w : World} {K : PySem.W.Frag} {elts : List Expr} {kk : Nat} {tpos : Pos} (a e it : Addr) (hat : a ≠ it) (hae : a ≠ e) :
    Turn P w K (.Tuple elts kk tpos) (IteT K a) [e, it] e (fun i h => (∃ old, IsEnum h e it ((i : Nat) : Int) old) ∧ h.IsTupleIter it a i ∧ e ≠ it) where
  mem := by simp
  obj := fun i h st b hb => by
    obtain ⟨⟨old, he⟩, ⟨o, ho, hc, hd⟩, _⟩ := st
    rcases (show b = e ∨ b = it by simpa using hb) with z | z
    · rw [z]
      exact ⟨_, he, fun v q => nomatch q⟩
    · rw [z]
      exact ⟨o, ho, fun v q => by rw [hd] at q; cases q⟩
  keep := fun i h h' st k => by
    obtain ⟨⟨old, he⟩, hi, hne⟩ := st
    exact ⟨⟨old, k e (by simp) _ he⟩, hi.at fun o q => k it (by simp) o q, hne⟩
  item := by
    intro X hP hw hK hc i pins s σ H E I hf st hg
    subst hP hw hK
    obtain ⟨⟨old, he⟩, hit, hne⟩ := st
    obtain ⟨xs, x, hq, hx⟩ := hg
    obtain ⟨its, rv, p, hz⟩ := I.tuple hq
    obtain ⟨u, hu, ru⟩ := rv.get hx
    have hlt : i < its.toArray.size := by simpa using (List.getElem?_eq_some_iff.mp hu).1
    have hel : e < s.heap.objs.size := Heap.lt_size he
    have hil : it < s.heap.objs.size := by obtain ⟨_, q, _⟩ := hit; exact Heap.lt_size q
    have D := Draws.tuple (prog := X.prog) (w := X.w) (A := X.A.in1) (by simpa using I.ok.hd hc) it a hat its.toArray
    have hef : e ∉ [it, a] := by
      simp only [List.mem_cons, List.not_mem_nil, or_false, not_or]
      exact ⟨hne, fun z => hae z.symm⟩
    refine wpAny_pyNext_enum_itemD D he ⟨hit, p⟩ hlt hne hef fun y h' tk hy ho hst hT hsz hk => ?_
    have ey : y = u := by
      have e1 : its[i]? = some y := by simpa using hy
      rw [hu] at e1
      exact (Option.some.inj e1).symm
    subst ey
    refine ⟨_, rfl, wpAny_letOwnedTupleGo_enum (s := { s with heap := h', toks := tk + 1 }) ho fun h'' he' sb => ?_⟩
    have hT2 : h''.get? s.heap.objs.size = some { cls := .type "tuple", data := .seq #[.int i tk, y] } := (sb.2 _ (Nat.ne_of_gt hel)).trans hT
    have hz2 : 2 ≤ sizeLine := by decide
    have new : ObjOk X.prog X.w (upd H s.heap.objs.size (.tup [.int (i : Nat), x])) h'' s.heap.objs.size (.tup [.int (i : Nat), x]) :=
      ⟨hz2, [.int i tk, y], .cons ⟨_, rfl⟩ (.cons ru .nil), ⟨_, hT2, rfl, _, rfl⟩⟩
    have I1 : Inv X pins σ (upd H s.heap.objs.size (.tup [.int (i : Nat), x])) { s with heap := h'', toks := tk + 1 } := by
      refine I.turnedNew (ch := [e, it]) (fun b ob hb q => ?_) hf (Nat.le_refl _) new
      have n1 : b ≠ e := fun z => hb (by simp [z])
      have n2 : b ≠ it := fun z => hb (by simp [z])
      exact (sb.2 b n1).trans (hk b ob n1 n2 q)
    refine ⟨.ref s.heap.objs.size, _, I1, rfl, ⟨_, x, rfl, I.hok.fresh (Nat.le_refl _), rfl, fun ys hy => by rw [I.tuple_inj hy hq]; exact hx⟩, ⟨⟨y, ?_⟩, ?_, hne⟩, fun b hb => ?_⟩
    · rw [show ((i + 1 : Nat) : Int) = (i : Int) + 1 by omega]
      exact he'
    · exact hst.1.at fun o q => (sb.2 it (Ne.symm hne)).trans q
    · have hb' : b < s.heap.objs.size := by
        rcases (show b = e ∨ b = it by simpa using hb) with z | z
        · rw [z]; exact hel
        · rw [z]; exact hil
      rw [upd_ne (Nat.ne_of_lt hb')]
      exact (hf b hb).1
  done := by
    intro X hP hw hK hc i pins s σ H E I hf st hg
    subst hP hw hK
    obtain ⟨⟨old, he⟩, hit, hne⟩ := st
    obtain ⟨xs, hq, hx⟩ := hg
    obtain ⟨its, rv, p, hz⟩ := I.tuple hq
    have hl := rv.length
    have D := Draws.tuple (prog := X.prog) (w := X.w) (A := X.A.in1) (by simpa using I.ok.hd hc) it a hat its.toArray
    have hn : its.toArray.size = i := by rw [List.size_toArray, ← hl]; exact hx
    rw [hn] at D
    obtain ⟨f0, f1, f2, f3, f4, f5⟩ := hf it (by simp)
    exact wpAny_pyNext_enum_endD D he ⟨hit, p⟩ fun h' eb => ⟨rfl, I.turned (t' := s.toks) (fun b o hb q => eb b o hb q) f0 f1 f3 f4 f5⟩
  self := fun A i s Q E st h => by
    obtain ⟨⟨_, he⟩, _⟩ := st
    exact wpAny_pyIter_enum he h
def iEnumT (K : PySem.W.Frag) (ta : TA) : TI := fun σ H R => ta σ H fun vs H1 => ∃ a xs, vs = [.ref a] ∧ SqT K H1 a xs ∧ R (IteT K a) H1
theorem pi_enumT {X : Cx} {e : Expr} {ta : TA} {p pos tpos : Pos} {elts : List Expr} {kk : Nat} (hg : Gl X "enumerate") (hm : X.mg "enumerate" = none) (ha : PA X [e] ta) (hs : starEach [e] X.env = [(false, eval e X.env)] := by rfl) :
    PI X (.Tuple elts kk tpos) (.Call (.Name "enumerate" p) [e] [] pos) (iEnumT X.K ta) := by
  refine ⟨fun pins s σ H R I h => ?_⟩
  refine Call_ (ld_blt I hg hm boot_enumerate (PyProof.Rows.callWith_type1 (thn (ha.run pos pins s σ H _ I h) fun us s1 ⟨vs, H1, I1, r1, q1⟩ => ?_) hs rfl))
  obtain ⟨a, xs, ex, hq, q⟩ := q1
  subst ex
  rw [Vals.ref1 r1]
  obtain ⟨its, rv, p', hz⟩ := I1.tuple hq
  have hal : a < s1.heap.objs.size := p'.lt
  refine call_enumT (show s1.heap.IsTuple a its.toArray from p') fun h' he hit hk => wpAny_pyIter_enum he ?_
  have I2 : Inv X pins σ H1 { s1 with heap := h' } := I1.kept (t' := s1.toks) hk
  refine ⟨s1.heap.objs.size + 1, [s1.heap.objs.size + 1, s1.heap.objs.size], _, _, H1, rfl, I2, turn_enumT a (s1.heap.objs.size + 1) s1.heap.objs.size (Nat.ne_of_lt hal) (Nat.ne_of_lt (Nat.lt_succ_of_lt hal)), ⟨⟨.none, he⟩, hit, Nat.succ_ne_self _⟩, fun b hb => ?_, q⟩
  have hle : s1.heap.objs.size ≤ b := by
    rcases (show b = s1.heap.objs.size + 1 ∨ b = s1.heap.objs.size by simpa using hb) with z | z
    · rw [z]; exact Nat.le_succ _
    · rw [z]; exact Nat.le_refl _
  exact I1.fpOk hle (I1.hok.fresh hle)
/-! ### the items of a locked dict whose keys are tuples -/
section
variable {X : Cx} {pins : List (Addr × Obj)} {σ : L2.St} {H : Hp} {s : Shared} {d : Addr} {o : Obj}
theorem frzT2 {kvs : List (List Key × V)} (I : Inv X pins σ H s) (h : H d = some (.frz o (.dT kvs))) :
    (d == sysModules) = false ∧ s.heap.get? d = some o ∧ o.ExactDict ∧ ∃ (es : Array DictEntry) (ep : Nat), o.data = .dict es ep ∧ es.size = kvs.length ∧
      ∀ (i : Nat) (k : List Key) (v : V), kvs[i]? = some (k, v) → ∃ (en : DictEntry) (q : Addr), es[i]? = some en ∧ en.key = .ref q ∧ H q = some (.tup (k.map kV)) ∧ RelV v en.val := by
  obtain ⟨hd, z, hs, xs, pr, o', es, ep, ho, hx, hdt, he, _⟩ := I.hok d _ h
  have eo : o = o' := Option.some.inj (hd.symm.trans ho)
  subst eo
  refine ⟨hs, hd, hx, es, ep, hdt, (size_of_entries he).trans (Paired.length pr).symm, fun i k v e => ?_⟩
  obtain ⟨b, hb, e1, e2, e3⟩ := paired_get pr e
  have q := entry_at he i
  rw [hb] at q
  exact ⟨_, b.2.1, q, rfl, e2, e3⟩
end
/-- its pairs, each a new tuple of the key's own tuple and the value -/
def ItiT (d : Addr) (o : Obj) (kvs : List (List Key × V)) : It :=
  ⟨fun i H => H d = some (.frz o (.dT kvs)) ∧ i < kvs.length,
   fun i H x H' => ∃ (T q : Addr) (k : List Key) (v : V), kvs[i]? = some (k, v) ∧ x = .ref T ∧ H T = none ∧ H q = some (.tup (k.map kV)) ∧ H' = upd H T (.tup [.ref q, v]),
   fun i H => H d = some (.frz o (.dT kvs)) ∧ kvs.length ≤ i⟩
theorem turn_itemsT {P : Program} {w : World} {K : PySem.W.Frag} {d : Addr} {o : Obj} {es : Array DictEntry} {ep : Nat} {kvs : List (List Key × V)} {elts : List Expr} {kk : Nat} {tpos : Pos} (it : Addr) (hod : o.data = .dict es ep) :
    Turn P w K (.Tuple elts kk tpos) (ItiT d o kvs) [it] it (fun i h => ∃ ok ov, IsItemIter h it d i kvs.length ep ok ov) where
  mem := by simp
  obj := fun i h st b hb => by
    rw [List.mem_singleton.mp hb]
    obtain ⟨ok, ov, e⟩ := st
    exact ⟨_, e, fun v z => nomatch z⟩
  keep := fun i h h' st k => by
    obtain ⟨ok, ov, e⟩ := st
    exact ⟨ok, ov, k it (by simp) _ e⟩
  item := by
    intro X hP hw hK hc i pins s σ H E I hf st hg
    subst hP hw hK
    obtain ⟨hd, hi⟩ := hg
    obtain ⟨hs, hgd, hx, es', ep', hdt, hsz, ent⟩ := frzT2 I hd
    obtain ⟨rfl, rfl⟩ := dict_ep hod hdt
    obtain ⟨⟨k, v⟩, hkv⟩ : ∃ p, kvs[i]? = some p := ⟨kvs[i], List.getElem?_eq_getElem hi⟩
    obtain ⟨en, q, hen, hkey, hq, rv⟩ := ent i k v hkv
    obtain ⟨ok, ov, he⟩ := st
    rw [← hsz] at he
    have hlt : it < s.heap.objs.size := Heap.lt_size he
    have hie : i < es'.size := by rw [hsz]; exact hi
    have een : es'[i] = en := by
      rw [Array.getElem?_eq_getElem hie] at hen
      exact Option.some.inj hen
    refine wpAny_pyNext_items_item_raw he ⟨o, hgd, hx, hdt⟩ hie fun h' ho hT hz hk => ?_
    rw [een, hkey] at ho hT
    refine ⟨_, rfl, wpAny_letOwnedTupleGo_items (s := { s with heap := h' }) ho fun h'' he' sb => ?_⟩
    have hT2 : h''.get? s.heap.objs.size = some { cls := .type "tuple", data := .seq #[.ref q, en.val] } := (sb.2 _ (Nat.ne_of_gt hlt)).trans hT
    have hz2 : 2 ≤ sizeLine := by decide
    have new : ObjOk X.prog X.w (upd H s.heap.objs.size (.tup [.ref q, v])) h'' s.heap.objs.size (.tup [.ref q, v]) :=
      ⟨hz2, [.ref q, en.val], .cons rfl (.cons rv .nil), ⟨_, hT2, rfl, _, rfl⟩⟩
    have I1 : Inv X pins σ (upd H s.heap.objs.size (.tup [.ref q, v])) { s with heap := h'' } := by
      refine I.turnedNew (t' := s.toks) (ch := [it]) (fun b ob hb e => ?_) hf (Nat.le_refl _) new
      have nb : b ≠ it := by simpa using hb
      exact (sb.2 b nb).trans (hk b ob nb e)
    refine ⟨.ref s.heap.objs.size, _, I1, rfl, ⟨_, q, k, v, hkv, rfl, I.hok.fresh (Nat.le_refl _), hq, rfl⟩, ⟨.ref q, en.val, ?_⟩, fun b hb => ?_⟩
    · rw [← hsz]
      exact he'
    · rw [List.mem_singleton.mp hb, upd_ne (Nat.ne_of_lt hlt)]
      exact (hf it (by simp)).1
  done := by
    intro X hP hw hK hc i pins s σ H E I hf st hg
    subst hP hw hK
    obtain ⟨hd, hi⟩ := hg
    obtain ⟨f0, f1, f2, f3, f4, f5⟩ := hf it (by simp)
    obtain ⟨hs, hgd, hx, es', ep', hdt, hsz, ent⟩ := frzT2 I hd
    obtain ⟨rfl, rfl⟩ := dict_ep hod hdt
    obtain ⟨ok, ov, he⟩ := st
    rw [← hsz] at he hi
    exact wpAny_pyNext_items_end_raw (I.ok.hd hc) he ⟨o, hgd, hx, hdt⟩ hi fun h' eb => ⟨rfl, I.turned (t' := s.toks) (fun b ob hb e => eb b ob hb e) f0 f1 f3 f4 f5⟩
  self := fun A i s Q E st h => by
    obtain ⟨_, _, e⟩ := st
    exact PySem.W.kcp_self e h
def iItemsT (td : TE) : TI := fun σ H R => td σ H fun x H1 => ∃ d o kvs, x = .ref d ∧ H1 d = some (.frz o (.dT kvs)) ∧ R (ItiT d o kvs) H1
theorem pi_itemsT {X : Cx} {e : Expr} {td : TE} {apos cpos : Pos} {elts : List Expr} {kk : Nat} {tpos : Pos} (he : PE X e td) (hbase : attributeBase e "items" X.env (eval e X.env) = eval e X.env := by rfl) (hline : (apos.endLine == cpos.line) = true := by rfl) :
    PI X (.Tuple elts kk tpos) (.Call (.Attribute e "items" apos) [] [] cpos) (iItemsT td) := by
  refine ⟨fun pins s σ H R I h => ?_⟩
  refine wpAny_Call_method (T := "dict") (id := "dict.items") hbase rfl hline F.plainAttrs_dict F.slot_dict_items F.type_dict_items (thn (he.run pins s σ H _ I h) fun u s1 ⟨x, H1, I1, rx, d, o, kvs, ex, hd, q⟩ => ?_)
  subst ex
  obtain rfl : u = Value.ref d := rx
  obtain ⟨hs, hgd, hx, es, ep, hdt, hsz, ent⟩ := frzT2 I1 hd
  have raw : s1.heap.DictRaw d es ep := ⟨o, hgd, hx, hdt⟩
  refine ⟨raw.typeIs, ?_, ?_⟩
  · intro b e
    cases e
    exact ⟨o, hgd, hx.2.1⟩
  have I2 : Inv X pins σ H1 { s1 with heap := s1.heap.push { cls := .type "dict_items", data := .fields #[.ref d] } } := I1.kept (t' := s1.toks) fun b ob z => Heap.get?_push_of_some _ z
  have fin : wpAny (model X.prog X.w) X.A (pyIter (.ref s1.heap.objs.size)) (PIE X pins σ (.Tuple elts kk tpos) R) X.xe { s1 with heap := s1.heap.push { cls := .type "dict_items", data := .fields #[.ref d] } } := by
    refine wpAny_pyIter_items_raw (d := d) ⟨_, Heap.get?_push_size _ rfl, rfl, rfl⟩ (raw.at fun ob z => Heap.get?_push_of_some _ z) (pi_one (tk := s1.toks) I2 _ (turn_itemsT _ hdt) ⟨.none, .none, ?_⟩ q)
    rw [← hsz]
    exact Heap.get?_push_size _ rfl
  show wpAny _ _ (callWith cpos (.builtin "dict.items") [.ref d] [] []) _ X.xe s1
  exact method_meetsIn F.slot_dict_items F.entry_dict_items rfl (PySem.evalArgs_none ⟨rfl, raw.typeIs, F.args_dict_items_1 _, _, meets_dict_items_raw d hs, ⟨es, ep, raw⟩, fin⟩)
/-- the walk of them -/
theorem walk_itemsT {d : Addr} {o : Obj} {kvs : List (List Key × V)} : Walk (ItiT d o kvs) kvs.length (fun H => H d = some (.frz o (.dT kvs)))
    (fun i H x H' => ∃ (T q : Addr) (k : List Key) (v : V), kvs[i]? = some (k, v) ∧ x = .ref T ∧ H T = none ∧ H q = some (.tup (k.map kV)) ∧ H' = upd H T (.tup [.ref q, v])) :=
  ⟨fun _ _ hi q => ⟨q, hi⟩, fun _ q => ⟨q, Nat.le_refl _⟩, fun _ _ _ _ _ _ y => y⟩
theorem walk_enumT {K : PySem.W.Frag} {a : Addr} {xs : List V} : Walk (IteT K a) xs.length (fun H => SqT K H a xs) (YPair (fun i => some (.int (i : Nat))) (fun i => xs[i]?)) := by
  refine ⟨fun i _ hi q => ⟨xs, xs[i], q, by simp [hi]⟩, fun _ q => ⟨xs, q, rfl⟩, fun i H v H' _ q y => ?_⟩
  obtain ⟨T, x, h1, h2, h3, h4⟩ := y
  exact ⟨T, .int (i : Nat), x, h1, h2, h3, rfl, h4 xs q⟩
end K53
/-! M0: the program as plain functions (mirrors), core Lean alone. -/
namespace K53
abbrev LI := List Int
def facI : Nat → Int
  | 0 => 1
  | n + 1 => ((n : Int) + 1) * facI n
def gcdI (a b : Int) : Int := ((Nat.gcd a.natAbs b.natAbs : Nat) : Int)
def frac (a b : Int) : Int × Int := (a / gcdI a b, b / gcdI a b)
/-- lots, by a table of all sums up to n -/
def lotStep (T : List (List LI)) (whole : Nat) : List LI :=
  (List.range whole).flatMap fun i => ((T.getD (whole - (i + 1)) []).filter fun r => decide (r = []) || decide (r.headD 0 ≤ (i : Int) + 1)).map fun r => ((i : Int) + 1) :: r
def lotTab : Nat → List (List LI)
  | 0 => [[[]]]
  | n + 1 => lotTab n ++ [lotStep (lotTab n) (n + 1)]
def lotsM (n : Nat) : List LI := (lotTab n).getD n []
/-- contents, row by row -/
def contRow (r : Int) (m : Int) : LI := (List.range m.toNat).map fun (c : Nat) => (c : Int) - r
def contFrom (r : Int) : LI → LI
  | [] => []
  | m :: l => contRow r m ++ contFrom (r + 1) l
def contM (l : LI) : LI := contFrom 0 l
/-- ascending insertion sort -/
def ins (x : Int) : LI → LI
  | [] => [x]
  | y :: l => if x ≤ y then x :: y :: l else y :: ins x l
def isort : LI → LI
  | [] => []
  | x :: l => ins x (isort l)
/-- beads -/
def beadsFrom (rows : Int) (at_ : Int) : LI → LI
  | [] => []
  | m :: l => (m + rows - 1 - at_) :: beadsFrom rows (at_ + 1) l
def beadsM (shape : LI) (rows : Nat) : LI := beadsFrom rows 0 (shape ++ List.replicate (rows - shape.length) 0)
def lotInFrom (at_ : Int) : LI → LI
  | [] => []
  | b :: l => if b > at_ then (b - at_) :: lotInFrom (at_ + 1) l else lotInFrom (at_ + 1) l
def lotInM (beads : LI) : LI := (lotInFrom 0 (isort beads)).reverse
def putOne (beads : LI) (length : Int) (i : Nat) : List (LI × Int) :=
  let bead := beads.getD i 0
  let higher := bead + length
  if higher ∈ beads then [] else [(lotInM (beads.take i ++ higher :: beads.drop (i + 1)), 1 - 2 * (((beads.filter fun o => decide (bead < o) && decide (o < higher)).length : Int) % 2))]
def putM (shape : LI) (length : Nat) : List (LI × Int) :=
  let beads := beadsM shape (shape.length + length)
  (List.range beads.length).flatMap (putOne beads length)
/-- dicts as lists of pairs -/
def look {α : Type} (d : α) : List (LI × α) → LI → α
  | [], _ => d
  | (k, v) :: r, x => if k = x then v else look d r x
def addTo (kvs : List (LI × Int)) (x : LI) (n : Int) : List (LI × Int) :=
  if (kvs.any fun kv => decide (kv.1 = x)) = true then kvs.map (fun kv => if kv.1 = x then (kv.1, kv.2 + n) else kv) else kvs ++ [(x, n)]
def reachStep (found : List (LI × Int)) (length : Nat) : List (LI × Int) :=
  found.foldl (fun later sn => (putM sn.1 length).foldl (fun later ms => addTo later ms.1 (ms.2 * sn.2)) later) []
def reachM (lot : LI) : List (LI × Int) := lot.foldl (fun found m => reachStep found m.toNat) [([], 1)]
def colM (lot : LI) : List (LI × Int) := let f := reachM lot; (lotsM lot.sum.toNat).map fun s => (s, look 0 f s)
def pairsM (one other : LI) : List (LI × Int) :=
  let a := colM one
  let b := colM other
  (a.filter fun p => decide (p.2 ≠ 0) && decide (look 0 b p.1 ≠ 0)).map fun p => (contM p.1, p.2 * look 0 b p.1)
/-- the row of factors; w: all (true), rising (false) -/
def rowStep (found : LI) (number : Int) (j : Nat) : LI := found.set (j + 1) (found.getD (j + 1) 0 + number * found.getD j 0)
def factorRow (numbers : LI) (w : Bool) (many : Nat) : LI :=
  if w then (List.range (many + 1)).map fun (k : Nat) => numbers.sum ^ k
  else numbers.foldl (fun found number => (List.range many).foldl (fun f j => rowStep f number j) found) (1 :: List.replicate many 0)
def numberedM (w : Bool) (many : Nat) (one other : LI) : LI :=
  (pairsM one other).foldl (fun found p => List.zipWith (fun e m => e + p.2 * m) found (factorRow p.1 w many)) (List.replicate (many + 1) 0)
def choose : Nat → Nat → Nat
  | _, 0 => 1
  | 0, _ + 1 => 0
  | n + 1, k + 1 => choose n k + choose n (k + 1)
/-- distinct members, descending -/
def uniqI : LI → LI
  | [] => []
  | x :: l => if x ∈ l then uniqI l else x :: uniqI l
def kindsM (lot : LI) : LI := (isort (uniqI lot)).reverse
def sharesStep (lot : LI) (found : List (LI × LI × Int)) (member : Int) : List (LI × LI × Int) :=
  let many := lot.count member
  found.flatMap fun f => (List.range (many + 1)).map fun t => (f.1 ++ List.replicate t member, f.2.1 ++ List.replicate (many - t) member, f.2.2 * choose many t)
def sharesM (lot : LI) : List (LI × LI × Int) := (kindsM lot).foldl (sharesStep lot) [([], [], 1)]
def sharesFirstM (lot : LI) : List (LI × LI × Int) := (sharesM lot.tail).map fun f => (lot.headD 0 :: f.1, f.2.1, f.2.2)
def partM (one other : LI) : List ((LI × LI) × (LI × LI) × Int) :=
  let lasts := sharesM other
  (sharesFirstM one).flatMap fun f => (lasts.filter fun l => decide (f.2.1 ≠ []) && decide (f.1.sum = l.1.sum)).map fun l => ((f.1, l.1), (f.2.1, l.2.1), f.2.2 * l.2.2)
/-- put_beside -/
def besideStep (w : Bool) (ways : Int) (place : Nat) (entry : Int) (other : LI) (found : LI) (step : Nat) : LI :=
  found.set (place + step) (found.getD (place + step) 0 + ways * (if w then (choose (place + step) place : Int) else 1) * entry * other.getD step 0)
def besideFrom (w : Bool) (many : Nat) (ways : Int) (other : LI) : Nat → LI → LI → LI
  | _, [], found => found
  | place, entry :: r, found => besideFrom w many ways other (place + 1) r
      (if entry ≠ 0 then (List.range (many + 1 - place)).foldl (besideStep w ways place entry other) found else found)
def besideM (w : Bool) (many : Nat) (one other : LI) (ways : Int) : LI := besideFrom w many ways other 0 one (List.replicate (many + 1) 0)
def linkedM (w : Bool) (many : Nat) : Nat → LI → LI → LI
  | 0, one, other => numberedM w many one other
  | f + 1, one, other => (partM one other).foldl (fun found p => List.zipWith (fun e n => e - n) found (besideM w many (linkedM w many f p.1.1 p.1.2) (numberedM w many p.2.1.1 p.2.1.2) p.2.2)) (numberedM w many one other)
def prodI (l : LI) : Int := l.foldl (fun a b => a * b) 1
def linkNum (w : Bool) (many : Nat) (one other : LI) : Int × Int := frac ((linkedM w many one.length one other).getD many 0) (prodI one * prodI other)
end K53
namespace K53
/-- squares as pairs, row by row -/
def sqRow (r : Int) (m : Int) : List LI := (List.range m.toNat).map fun (c : Nat) => [r, (c : Int)]
def sqFrom (r : Int) : LI → List LI
  | [] => []
  | m :: l => sqRow r m ++ sqFrom (r + 1) l
def sqM (l : LI) : List LI := sqFrom 0 l
end K53
/-! R3: a dict whose keys are pairs of tuples of ints (the caches of an object). -/
namespace K53
open PySem PySem.Spec PyProof.Rows L2

abbrev PK2 := LI × LI
def nk1 (l : LI) : NestedKey := .tup (l.map .num)
def nk2 (k : PK2) : NestedKey := .tup [nk1 k.1, nk1 k.2]
theorem num_inj : ∀ {a b : LI}, a.map NestedKey.num = b.map NestedKey.num → a = b
  | [], [], _ => rfl
  | [], _ :: _, e => by simp at e
  | _ :: _, [], e => by simp at e
  | x :: xs, y :: ys, e => by
    rw [List.map_cons, List.map_cons] at e
    injection e with e1 e2
    injection e1 with e1
    rw [e1, num_inj e2]
theorem nk2_inj {a b : PK2} (h : nk2 a = nk2 b) : a = b := by
  unfold nk2 nk1 at h
  injection h with h
  injection h with h1 h2
  injection h2 with h2 _
  injection h1 with h1
  injection h2 with h2
  exact Prod.ext (num_inj h1) (num_inj h2)
abbrev NEs := List (PK2 × Addr × V)
/-- its entries: key, the key's own tuple, value -/
abbrev NRel (es : NEs) (xs : List (NestedKey × Addr × Value)) : Prop := Paired (fun (e : PK2 × Addr × V) (x : NestedKey × Addr × Value) => x.1 = nk2 e.1 ∧ x.2.1 = e.2.1 ∧ RelV e.2.2 x.2.2) es xs
def DNo (P : Program) (w : World) (a : Addr) (es : NEs) : HO := .ext fun h => (a == sysModules) = false ∧ es.length ≤ sizeLine ∧ ∃ xs, NRel es xs ∧
  ∃ o de ep, h.get? a = some o ∧ o.ExactDict ∧ o.data = .dict de ep ∧ de.toList = xs.map (entryOfKey (nestedKind P w)) ∧ (xs.map (·.1)).Nodup
/-- the pair of two tuples at q -/
def PairT (H : Hp) (q : Addr) (k : PK2) : Prop := ∃ p1 p2, H q = some (.tup [.ref p1, .ref p2]) ∧ Rd H p1 (.tup (k.1.map V.int)) ∧ Rd H p2 (.tup (k.2.map V.int))
/-- a tuple, locked or not -/
def IsTp : HO → Prop
  | .tup _ => True
  | .frz _ (.tup _) => True
  | _ => False
def KeepT (H H' : Hp) : Prop := ∀ b x, IsTp x → H b = some x → H' b = some x
theorem KeepT.rd {H H' : Hp} (ht : KeepT H H') {a : Addr} {ys : List V} (h : Rd H a (.tup ys)) : Rd H' a (.tup ys) := by
  rcases h with h | ⟨o, h⟩
  · exact .inl (ht _ _ trivial h)
  · exact .inr ⟨o, ht a (.frz o (.tup ys)) trivial h⟩
theorem PairT.keep {H H' : Hp} {q : Addr} {k : PK2} (h : PairT H q k) (ht : KeepT H H') : PairT H' q k := by
  obtain ⟨p1, p2, h1, h2, h3⟩ := h
  exact ⟨p1, p2, ht _ _ trivial h1, ht.rd h2, ht.rd h3⟩
/-- at a stands a dict with these entries -/
structure DN (P : Program) (w : World) (H : Hp) (a : Addr) (es : NEs) : Prop where
  at_ : H a = some (DNo P w a es)
  keys : ∀ e ∈ es, PairT H e.2.1 e.1
theorem DN.keep {P : Program} {w : World} {H H' : Hp} {a : Addr} {es : NEs} (d : DN P w H a es) (ha : H' a = H a) (ht : KeepT H H') : DN P w H' a es :=
  ⟨ha.trans d.at_, fun e he => (d.keys e he).keep ht⟩
def atN (es : NEs) (k : PK2) : Option V := (es.find? fun e => decide (e.1 = k)).map (·.2.2)
theorem NRel.val {es : NEs} {xs : List (NestedKey × Addr × Value)} (r : NRel es xs) (k : PK2) : RelO (atN es k) ((atKey xs (nk2 k)).map (·.2)) := by
  induction r with
  | nil => exact True.intro
  | @cons e x es xs h t ih =>
    obtain ⟨h1, h2, h3⟩ := h
    by_cases q : e.1 = k
    · have a1 : atN (e :: es) k = some e.2.2 := by simp [atN, List.find?_cons, q]
      have a2 : atKey (x :: xs) (nk2 k) = some x.2 := by simp [atKey, List.find?_cons, h1, q]
      rw [a1, a2]
      exact h3
    · have q2 : ¬ x.1 = nk2 k := fun z => q (nk2_inj (h1.symm.trans z))
      have a1 : atN (e :: es) k = atN es k := by simp [atN, List.find?_cons, q]
      have a2 : atKey (x :: xs) (nk2 k) = atKey xs (nk2 k) := by simp [atKey, List.find?_cons, q2]
      rw [a1, a2]
      exact ih
section
variable {X : Cx} {pins : List (Addr × Obj)} {σ : L2.St} {H : Hp} {s : Shared} {a q : Addr} {es : NEs} {k : PK2} {A : Around} {E : Value → Shared → Prop}
theorem all_num {h : Heap} : ∀ {l : LI} {us : List Value}, Vals (l.map V.int) us → NestedAll h (l.map .num) us
  | [], _, r => by cases r; exact .nil
  | n :: l, _, r => by
    rw [List.map_cons] at r
    cases r with
    | cons a t =>
      obtain ⟨tk, rfl⟩ := a
      exact .cons (.int _ _) (all_num t)
theorem nk1_is {p : Addr} {l : LI} (I : Inv X pins σ H s) (h : Rd H p (.tup (l.map V.int))) : NestedIs s.heap (nk1 l) (.ref p) := by
  obtain ⟨_, its, r, o, h1, h2, n, h3⟩ := (show ObjOk X.prog X.w H s.heap p (.tup (l.map V.int)) from h.ok I.hok)
  exact .tup h1 h2 h3 (by simpa using all_num r)
theorem depth_nums : ∀ l : LI, NestedKey.depthAll (l.map .num) = 0
  | [] => rfl
  | n :: l => by
    show max 0 (NestedKey.depthAll (l.map .num)) = 0
    rw [depth_nums l]
    rfl
theorem nk2_depth (k : PK2) : (nk2 k).depth ≤ 8 := by
  have e1 := depth_nums k.1
  have e2 := depth_nums k.2
  simp only [nk2, nk1, NestedKey.depth, NestedKey.depthAll, e1, e2]
  decide
theorem nk2_is (I : Inv X pins σ H s) (h : PairT H q k) : (nestedKind X.prog X.w).is s.heap (nk2 k) q := by
  obtain ⟨p1, p2, h1, h2, h3⟩ := h
  obtain ⟨_, its, r, o, g1, g2, n, g3⟩ := (show ObjOk X.prog X.w H s.heap q (.tup [.ref p1, .ref p2]) from I.hok q _ h1)
  obtain ⟨u1, u2, rfl, r1, r2⟩ := vals2 r
  cases r1
  cases r2
  exact ⟨.tup g1 g2 g3 (.cons (nk1_is I h2) (.cons (nk1_is I h3) .nil)), nk2_depth k⟩
theorem DN.dict (d : DN X.prog X.w H a es) (I : Inv X pins σ H s) : (a == sysModules) = false ∧ es.length ≤ sizeLine ∧ ∃ xs, NRel es xs ∧ s.heap.DictOfH (nestedKind X.prog X.w) a xs := by
  obtain ⟨⟨hs, hl, xs, r, o, de, ep, h1, h2, h3, h4, h5⟩, _, _⟩ := I.hok a _ d.at_
  refine ⟨hs, hl, xs, r, o, de, ep, h1, h2, h3, h4, fun x hx => ?_, h5⟩
  have all : ∀ {l : NEs} {m : List (NestedKey × Addr × Value)}, NRel l m → (∀ e ∈ l, PairT H e.2.1 e.1) → ∀ x ∈ m, (nestedKind X.prog X.w).is s.heap x.1 x.2.1 := by
    intro l m z
    induction z with
    | nil => intro _ x hx; exact nomatch hx
    | @cons e y l m hy t ih =>
      intro hk x hx
      rcases List.mem_cons.mp hx with z | hx
      · rw [z, hy.1, hy.2.1]
        exact nk2_is I (hk e List.mem_cons_self)
      · exact ih (fun e he => hk e (List.mem_cons_of_mem _ he)) x hx
  exact all r d.keys x hx
theorem nroom {n : Nat} (hu : A.units + 64 < cLine) : (nestedKind X.prog X.w).room A.in1 := by
  show A.in1.units + 8 < cLine
  rw [Around.in1_units]
  omega
end
/-- k not in d, d[k], d[k] = v -/
def rNNotIn (P : Program) (w : World) : R2 := fun x y H Q => ∃ (q a : Addr) (k : PK2) (es : NEs), x = .ref q ∧ y = .ref a ∧ PairT H q k ∧ DN P w H a es ∧ Q (.bl (!(atN es k).isSome)) H
def rNGet (P : Program) (w : World) : R2 := fun x y H Q => ∃ (a q : Addr) (k : PK2) (es : NEs) (v : V), x = .ref a ∧ y = .ref q ∧ PairT H q k ∧ DN P w H a es ∧ atN es k = some v ∧ Q v H
def sNPut (P : Program) (w : World) : TSet := fun x y v H Q => ∃ (a q : Addr) (k : PK2) (es : NEs), x = .ref a ∧ y = .ref q ∧ PairT H q k ∧ DN P w H a es ∧ atN es k = none ∧ es.length < 1000 ∧ Q (upd H a (DNo P w a (es ++ [(k, q, v)])))
section
variable {X : Cx}
theorem op_nNotIn (hu : X.A.units + 64 < cLine) : OpR X (compareOp .NotIn) (rNNotIn X.prog X.w) := by
  intro pins s σ H x y v u Q I rx ry h
  obtain ⟨q, a, k, es, rfl, rfl, hk, d, g⟩ := h
  cases rx
  cases ry
  obtain ⟨hs, hl, xs, r, dd⟩ := d.dict I
  refine wpAny_notIn_heap (nroom (n := 0) hu) (nk2_is I hk) hs dd ?_
  have e := (r.val k).isSome_eq
  rw [Option.isSome_map] at e
  rw [← e]
  exact ⟨.bl _, H, I.tok _, rfl, g⟩
theorem get_n (hu : X.A.units + 64 < cLine) {pins : List (Addr × Obj)} {s : Shared} {σ : L2.St} {H : Hp} {x y : V} {v u : Value} {Q : VK} (I : Inv X pins σ H s) (rx : RelV x v) (ry : RelV y u) (h : rNGet X.prog X.w x y H Q) :
    s.TypeIs v "dict" ∧ wpAny (model X.prog X.w) X.A (getItem v u) (EP X pins σ Q) X.xe s := by
  obtain ⟨a, q, k, es, z, rfl, rfl, hk, d, e, g⟩ := h
  cases rx
  cases ry
  obtain ⟨hs, hl, xs, r, dd⟩ := d.dict I
  obtain ⟨w', hw, rw'⟩ := RelO.some_of (v := z) (o := (atKey xs (nk2 k)).map (·.2)) (by rw [← e]; exact r.val k)
  obtain ⟨p, hp, hp2⟩ := Option.map_eq_some_iff.mp hw
  refine ⟨dd.typeIs, wpAny_getItem_heap (nroom (n := 0) hu) (nk2_is I hk) dd hp ?_⟩
  rw [hp2]
  exact ⟨z, H, I.tok _, rw', g⟩
/-- d[i] -/
theorem pe_nGet {o i : Expr} {pos : Pos} {td ty : TE} (hu : X.A.units + 64 < cLine) (ho : PE X o td) (hi : PE X i ty) (hs : NoSl i) : PE X (.Subscript o i pos) (tOp (rNGet X.prog X.w) td ty) := by
  refine ⟨fun pins s σ H Q I h => ?_⟩
  refine subD_of (T := "dict") PySem.F.slot_dict_getitem.lookup hs ?_
  refine thn (ho.run pins s σ H _ I h) fun v s1 ⟨x, H1, I1, rx, q1⟩ => ?_
  exact thn (hi.run pins s1 σ H1 _ I1 q1) fun u s2 ⟨y, H2, I2, ry, q2⟩ => get_n hu I2 rx ry q2
theorem set_n (hu : X.A.units + 64 < cLine) : PSet X (sNPut X.prog X.w) := by
  intro pins s σ H o i v ov iv u Q I ro ri rv h
  obtain ⟨a, q, k, es, rfl, rfl, hk, d, e, hl2, g⟩ := h
  cases ro
  cases ri
  obtain ⟨hs, hl, xs, r, dd⟩ := d.dict I
  have hlen : es.length = xs.length := Paired.length r
  refine wpAny_setItem_heap (hsz := by rw [← hlen]; exact hl) (nroom (n := 0) hu) (nk2_is I hk) dd fun h' dd' hb => ?_
  have en : atKey xs (nk2 k) = none := by
    have z := r.val k
    rw [e] at z
    exact Option.map_eq_none_iff.mp (RelO.none_of z)
  rw [storedH_new en] at dd'
  obtain ⟨ob, de, ep, h1, h2, h3, h4, _, h5⟩ := dd'
  refine ⟨_, ?_, g⟩
  refine I.write (x := a) (e := a) (by rw [d.at_]; trivial) (.inl rfl) (fun b z hbz hz => (hb.2 b hbz).trans hz) ⟨ob, h1⟩ ?_
  refine ⟨⟨hs, ?_, _, Paired.snoc r ⟨rfl, rfl, rv⟩, ob, de, ep, h1, h2, h3, h4, h5⟩, ⟨ob, h1⟩, ?_⟩
  · rw [List.length_append, List.length_singleton, sizeLine_eq]
    omega
  · rintro g1 g2 ⟨z1, z2, xs', z3, ob', de', ep', z4, z5⟩ st
    exact ⟨z1, z2, xs', z3, ob', de', ep', st _ z4, z5⟩
theorem dno_empty {P : Program} {w : World} {H : Hp} {h : Heap} {a : Addr} (ha : (a == sysModules) = false) (e : h.get? a = some { cls := .type "dict", data := .dict #[] }) : ObjOk P w H h a (DNo P w a []) := by
  refine ⟨⟨ha, Nat.zero_le _, [], .nil, _, #[], _, e, ⟨rfl, rfl, rfl⟩, rfl, rfl, List.nodup_nil⟩, ⟨_, e⟩, ?_⟩
  rintro g1 g2 ⟨z1, z2, xs', z3, ob', de', ep', z4, z5⟩ st
  exact ⟨z1, z2, xs', z3, ob', de', ep', st _ z4, z5⟩
/-- {} -/
def tNNew (P : Program) (w : World) : TE := fun _ H Q => ∀ p, H p = none → Q (.ref p) (upd H p (DNo P w p []))
theorem pe_nNew {pos : Pos} : PE X (.Dict [] [] pos) (tNNew X.prog X.w) := by
  refine ⟨fun pins s σ H Q I h => ?_⟩
  have hs : (s.heap.objs.size == sysModules) = false := beq_eq_false_iff_ne.mpr (Nat.ne_of_gt I.big)
  exact wpAny_Dict_empty ⟨.ref s.heap.objs.size, _, I.laid (a := s.heap.objs.size) (o := DNo X.prog X.w s.heap.objs.size []) (t' := s.toks) (fun _ _ q => Heap.get?_push_of_some _ q) (Nat.le_refl _) (dno_empty hs (Heap.get?_push_size _ rfl)), rfl, h _ (I.hok.fresh (Nat.le_refl _))⟩
end
end K53
/-! R4: dicts with tuple keys made: {t: v}, {t: v for ..}. -/
namespace K53
open PySem PySem.Spec PyProof.Rows L2
section
variable {X : Cx}
/-- {k: v}, k a tuple -/
def tDispT (tk tv : TE) : TE := fun σ H Q => ∀ p, H p = none → tk σ (upd H p (.dT [])) fun x H1 => tv σ H1 fun y H2 =>
  ∃ (q : Addr) (k : List Key), x = .ref q ∧ H2 q = some (.tup (k.map kV)) ∧ H2 p = some (.dT []) ∧ Q (.ref p) (upd H2 p (.dT [(k, y)]))
theorem pe_dispT {ek ev : Expr} {pos : Pos} {tk tv : TE} (hu : X.A.units + 1 < cLine) (hk : PE X ek tk) (hv : PE X ev tv)
    (hsh : (evalEachOpt [some ek] X.env).zip ((evalEach [ev] X.env).map fun v => do let x ← v; standAt pos; pure x) = [(eval ek X.env, do let x ← eval ev X.env; standAt pos; pure x)].map fun p => (some p.1, p.2) := by rfl) :
    PE X (.Dict [some ek] [ev] pos) (tDispT tk tv) := by
  refine ⟨fun pins s σ H Q I h => ?_⟩
  have hn := I.hok.fresh (Nat.le_refl s.heap.objs.size)
  have I1 := I.laid (a := s.heap.objs.size) (o := .dT []) (h' := s.heap.push { cls := .type "dict", data := .dict #[] }) (t' := s.toks) (fun _ _ z => Heap.get?_push_of_some _ z) (Nat.le_refl _) (dt_empty s.heap I.big)
  rw [arm_eval_Dict, hsh, dictDisplay_pairs _ (by simp) (by show 1 < 17; decide)]
  refine wpAny_bind (wpAny_standAt (wpAny_bind (wpAny_subDictH (knd := tupleKind (mixKind X.prog X.w)) (Nat.lt_of_succ_lt hu) (by show 1 ≤ 15; decide) (evalPairs_cons (thn (hk.run pins _ σ _ _ I1 (h _ hn)) fun u s2 ⟨x, H1, I2, rx, q1⟩ => ?_))))) 
  refine wpAny_bind (thn (hv.run pins s2 σ H1 _ I2 q1) fun w2 s3 hh => ?_)
  obtain ⟨y, H2, I3, ry, q, k, ex, hq, hp, q2⟩ := hh
  subst ex
  cases rx
  obtain ⟨_, hs, xs, rel, dd⟩ := dt_of I3.hok hp
  cases rel
  refine wpAny_bind (wpAny_standAt (wpAny_pure (evalPairs_nil ?_)))
  refine ⟨[(k, q, w2)], ⟨rfl, rfl, key_of I3.hok hq, trivial⟩, dd, fun h' tk' dd' hb => ?_⟩
  obtain ⟨o, es, ep, h1, h2, h3, h4, h5, h6⟩ := dd'
  refine wpAny_pure ⟨.ref s.heap.objs.size, _, ?_, rfl, q2⟩
  refine d_write I3 (by rw [hp]; trivial) hb ⟨o, h1⟩ ⟨?_, hs, [(k, q, w2)], .cons ⟨rfl, ?_, ry⟩ .nil, o, es, ep, h1, h2, h3, h4, h6⟩
  · rw [sizeLine_eq]
    show 1 ≤ _
    decide
  · rw [upd_ne (ne_of hq hp (fun z => nomatch z))]
    exact hq
/-- one entry of a comprehension's dict -/
theorem setT {pins : List (Addr × Obj)} {σ : L2.St} {H : Hp} {s : Shared} {E : Value → Shared → Prop} {D b : Addr} {kvs : List (List Key × V)} {k : List Key} {v : V} {r : Value} {Q : Unit → Shared → Prop} (hu : X.A.units < cLine) (I : Inv X pins σ H s) (hD : H D = some (.dT kvs))
    (hz : kvs.length < sizeLine) (hb : H b = some (.tup (k.map kV))) (rv : RelV v r) (h : ∀ s', Inv X pins σ (upd H D (.dT (putK kvs k v))) s' → Q () s') : wpAny (model X.prog X.w) X.A (dictSet D (.ref b) r) Q E s := by
  obtain ⟨z, hs, xs, rel, dd⟩ := dt_of I.hok hD
  have hzx : xs.length ≤ sizeLine := by
    have e := Paired.length rel
    omega
  have hl : (putK kvs k v).length ≤ sizeLine := by
    have := length_putK kvs k v
    omega
  refine wpAny_dictSet_heap (hsz := hzx) (knd := tupleKind (mixKind X.prog X.w)) hu (key_of I.hok hb) dd fun h' dd' sb => h _ ?_
  obtain ⟨o, es, ep, g1, g2, g3, g4, _, g6⟩ := dd'
  refine d_write I (by rw [hD]; trivial) sb ⟨o, g1⟩ ⟨hl, hs, _, (rel.put k hb rv).keeps fun c ys ec => ?_, o, es, ep, g1, g2, g3, g4, g6⟩
  rw [upd_ne (ne_of ec hD (fun w => nomatch w))]
  exact ec
/-- {k: v for target in iter}, the keys tuples; D the new dict -/
def tDcT (wi : TI) (g : TG) (tk tv : TE) (vs : List Nat) : TE := fun σ H Q => wi σ H fun J H1 => ∀ D, H1 D = none → ∃ W : Nat → Nat → Hp → Prop, (∃ m, W 0 m (upd H1 D (.dT []))) ∧ ∀ i m H, W i m H →
  (J.stop i H ∧ Q (.ref D) H) ∨ (J.go i H ∧ ∃ Nx : Hp → Prop, (∀ H', Nx H' → ∃ m', m' < m ∧ W (i + 1) m' H') ∧ ∀ x H', J.yld i H x H' → g x (wipe σ vs) H' fun σ2 H2 => wipe σ2 vs = wipe σ vs ∧
    tk σ2 H2 fun y H3 => tv σ2 H3 fun z H4 => ∃ (kvs : List (List Key × V)) (k : List Key) (b : Addr), y = .ref b ∧ H4 b = some (.tup (k.map kV)) ∧ H4 D = some (.dT kvs) ∧ kvs.length < sizeLine ∧ Nx (upd H4 D (.dT (putK kvs k z))))
abbrev Own := List (PySem.Str × Nat)
theorem pe_dcT {kx vx tg iter : Expr} {scope : Scope} {own : Own} {pos : Pos} {wi : TI} {g : TG} {tk tv : TE} (hu : X.A.units < cLine) (hc : X.calm = true) (hN : X.N.Nodup) (hi : PI X tg iter wi) (ok : BlkOk X.N X.env.scope scope own)
    (hg : ∀ (s0 : Shared) (H0 : Hp) (C : Addr) (cl : List (PySem.Str × Addr)) (fp : List Addr), PG (X.blk s0 H0 scope (compEnvC scope cl C X.env) fp) tg g)
    (hk : ∀ (s0 : Shared) (H0 : Hp) (C : Addr) (cl : List (PySem.Str × Addr)) (fp : List Addr), PE (X.blk s0 H0 scope (compEnvC scope cl C X.env) fp) kx tk)
    (hv : ∀ (s0 : Shared) (H0 : Hp) (C : Addr) (cl : List (PySem.Str × Addr)) (fp : List Addr), PE (X.blk s0 H0 scope (compEnvC scope cl C X.env) fp) vx tv)
    (hfold : ∀ x, foldedSetIterable iter X.env x = pure x := by intro _; rfl) : PE X (.DictComp kx vx [⟨tg, iter, [], 0⟩] scope pos) (tDcT wi g tk tv (own.map (·.2))) := by
  refine ⟨fun pins s σ H Q I h => ?_⟩
  rw [arm_eval_DictComp]
  have hfree : ∀ y ∈ scope.names, y.2 = .free → ∃ c, X.env.cells.lookup y.1 = some c := fun y hy e => by
    rcases ok.free y hy e with z | z
    · exact I.ok.has _ (.inl z)
    · exact I.ok.has _ (.inr z)
  refine wpAny_comprehension_free rfl hfold (closure_ok hfree) ok.kind (fun y hy e => by rw [ok.uniq y hy, e]) (thn (hi.run pins s σ H _ I h) fun xv s1 hx => thn hx fun itv s2 h2 => ?_)
  obtain ⟨it, fp, tn, J, H2, ei, I2, T, st2, f2, q⟩ := h2
  subst ei
  refine wpAny_newObj_type (newEnv_comp ?_)
  generalize hD : s2.heap.objs.size = D
  have hDn : H2 D = none := I2.hok.fresh (Nat.le_of_eq hD)
  obtain ⟨W, ⟨m0, w0⟩, turn⟩ := q D hDn
  generalize hs3 : ({ s2 with heap := s2.heap.push { cls := .type "dict", data := .dict #[] } } : Shared) = s3
  have h3 : s3.heap = s2.heap.push { cls := .type "dict", data := .dict #[] } := by rw [← hs3]
  have I3 : Inv X pins σ (upd H2 D (.dT [])) s3 := by
    subst hs3 hD
    exact I2.laid (t' := s2.toks) (fun b o e => Heap.get?_push_of_some _ e) (Nat.le_refl _) (dt_empty s2.heap I2.big)
  have f3 : ∀ b ∈ fp, FpOk X pins (upd H2 D (.dT [])) b ∧ b < s3.heap.objs.size := fun b hb => by
    obtain ⟨o, e, _⟩ := T.obj _ _ st2 b hb
    have hlt := Heap.lt_size e
    refine ⟨⟨?_, (f2 b hb).2⟩, ?_⟩
    · rw [upd_ne (by rw [← hD]; exact Nat.ne_of_lt hlt)]
      exact (f2 b hb).1
    · rw [h3, Heap.size_push]
      exact Nat.lt_succ_of_lt hlt
  have st3 : tn 0 s3.heap := T.keep _ _ _ st2 fun b _ o e => by
    rw [h3]
    exact Heap.get?_push_of_some _ e
  have I4 := block_start I3 ok hN f3
  generalize hH3 : upd H2 D (.dT []) = H3 at I3 I4 w0 f3
  have pg := hg s3 H3 s3.heap.objs.size (cellsFrom (s3.heap.objs.size + 1) scope.names (cloFrom X.env.cells scope.names [])) fp
  have pk := hk s3 H3 s3.heap.objs.size (cellsFrom (s3.heap.objs.size + 1) scope.names (cloFrom X.env.cells scope.names [])) fp
  have pv := hv s3 H3 s3.heap.objs.size (cellsFrom (s3.heap.objs.size + 1) scope.names (cloFrom X.env.cells scope.names [])) fp
  show codeAny _ _ (.compStart (.DictComp kx vx [⟨tg, iter, [], 0⟩] scope pos) 0 (.ref it) (.ref D) (compEnvC scope (cellsFrom (s3.heap.objs.size + 1) scope.names (cloFrom X.env.cells scope.names [])) s3.heap.objs.size X.env))
    (compPost (model X.prog X.w) X.A X.xe none (EP X pins σ Q) (.ref D) s3.heap.objs.size) { s3 with heap := pushCells (s3.heap.push { cls := .type "dict", data := .dict #[] }) scope.names }
  generalize hB : compEnvC scope (cellsFrom (s3.heap.objs.size + 1) scope.names (cloFrom X.env.cells scope.names [])) s3.heap.objs.size X.env = B at I4 pg pk pv ⊢
  have bL : B.locals = s3.heap.objs.size := by rw [← hB]; rfl
  generalize hs4 : ({ s3 with heap := pushCells (s3.heap.push { cls := .type "dict", data := .dict #[] }) scope.names } : Shared) = s4 at I4 ⊢
  have st4 : tn 0 s4.heap := T.keep _ _ _ st3 fun b _ o e => by
    rw [← hs4]
    exact pushCells_keeps _ _ _ _ (Heap.get?_push_of_some _ e)
  have none3 : ∀ b ∈ fp, H3 b = none := fun b hb => (f3 b hb).1.1
  have okB : ∀ {σ' : L2.St} {H' : Hp} {s' : Shared}, Inv (X.blk s3 H3 scope B fp) [] σ' H' s' → (∀ b ∈ fp, H' b = none) → ∀ b ∈ fp, FpOk (X.blk s3 H3 scope B fp) [] H' b := fun {σ' H' s'} I' hn b hb =>
    ⟨hn b hb, (I'.ok.exf b hb).1, I'.ok.exfs b hb, .inl hb, fun x c e => (I'.ok.exf b hb).2 x c e, fun p hp => absurd (show p ∈ ([] : List (Addr × Obj)) ++ [] from hp) (by simp)⟩
  have body : codeAny (model X.prog X.w) X.A (.compLoop (.DictComp kx vx [⟨tg, iter, [], 0⟩] scope pos) 0 (.ref it) (.ref D) B) (compPost (model X.prog X.w) X.A X.xe none (EP X pins σ Q) (.ref D) s3.heap.objs.size) s4 := by
    refine compLoop_anyD (fun n s' => ∃ i H', Inv (X.blk s3 H3 scope B fp) [] (wipe σ (own.map (·.2))) H' s' ∧ tn i s'.heap ∧ (∀ b ∈ fp, H' b = none) ∧ W i n H') ?_ m0 ⟨0, H3, I4, st4, none3, w0⟩
    rintro n s5 ⟨i, H5, I5, st5, n5, w5⟩
    rcases turn i n H5 w5 with ⟨hstop, hq⟩ | ⟨hgo, Nx, hNx, step⟩
    · refine thnF (T.done (X.blk s3 H3 scope B fp) rfl rfl rfl hc i [] s5 _ H5 (fun _ _ => False) I5 (okB I5 n5) st5 hstop) fun r s6 ⟨hr, I6⟩ => ?_
      subst hr
      have I7 : Inv X pins σ H5 s6 := I3.call' (ch := fp) I6.os I6.base I6.hok I6.bare fun b hb => by
        obtain ⟨f0, f1, f2', f4, f5, f6⟩ := (f3 b hb).1
        exact ⟨f4, f1, f5, f6⟩
      have nC : H5 s3.heap.objs.size = none := by
        rw [← bL]
        exact I6.free
      obtain ⟨m, hn, _⟩ := I6.loc
      have hn2 : s6.heap.Ns s3.heap.objs.size m := by
        rw [← bL]
        exact hn
      refine ⟨m, hn2, fun h'' sb => ?_⟩
      obtain ⟨f0, f1, _, f3', f4, f5⟩ := I3.fpOk (Nat.le_refl _) nC
      exact ⟨.ref D, H5, I7.turned (t' := s6.toks) (fun b o hb e => (sb.2 b hb).trans e) f0 f1 f3' f4 f5, rfl, hq⟩
    · refine thnF (T.item (X.blk s3 H3 scope B fp) rfl rfl rfl hc i [] s5 _ H5 (fun _ _ => False) I5 (okB I5 n5) st5 hgo) fun r s6 ⟨u, hr, h6⟩ => ?_
      subst hr
      refine thnF h6 fun _ s7 ⟨x, H7, I7, r7, y7, st7, n7⟩ => ?_
      have I7' := I7.pinned (okB I7 n7) (T.obj _ _ st7)
      refine thnF (pg.run _ s7 _ H7 x u _ I7' r7 (step x H7 y7)) fun _ s8 ⟨σ8, H8, I8, hw8, q8⟩ => ?_
      rw [List.forIn_nil]
      refine wpAny_pure ?_
      simp only [if_true]
      refine thnF (pk.run _ s8 σ8 H8 _ I8 q8) fun z s10 ⟨yk, H10, I10, r10, q10⟩ => ?_
      refine thnF (pv.run _ s10 σ8 H10 _ I10 q10) fun z2 s11 ⟨yv, H11, I11, r11, kvs, k, b, ek, hb11, hD11, hz11, nx⟩ => ?_
      subst ek
      cases r10
      refine setT (X := X.blk s3 H3 scope B fp) hu I11 hD11 hz11 hb11 r11 fun s12 I12 => ?_
      obtain ⟨m', hm, w'⟩ := hNx _ nx
      have pin' : ∀ b ∈ fp, ∀ o, s7.heap.get? b = some o → s12.heap.get? b = some o ∧ (upd H11 D (.dT (putK kvs k yv))) b = none := fun b hb o e => by
        have z := I12.pin (b, o) (List.mem_append_right _ (List.mem_append_right _ (mem_pinsAt hb e)))
        exact ⟨z.1, z.2.1⟩
      have hlw : (wipe σ (own.map (·.2))).length = σ8.length := by rw [← hw8, wipe_length]
      refine ⟨m', hm, i + 1, _, (I12.unpinned (pins := [])).weak hlw (fun j v e => ?_), T.keep _ _ _ st7 fun b hb o e => (pin' b hb o e).1, fun b hb => ?_, w'⟩
      · rw [← hw8] at e
        exact (wipe_some e).1
      · obtain ⟨o, e, _⟩ := T.obj _ _ st7 b hb
        exact (pin' b hb o e).2
  exact codeAny_compStart_dict body (T.self X.A 0 _ _ _ st4 body)
/-- over a tuple that stays -/
theorem dcT_it {J : It} {n : Nat} {G : Hp → Prop} {Y : Nat → Hp → V → Hp → Prop} (w : Walk J n G Y) {g : TG} {tk tv : TE} {vs : List Nat} {σ : L2.St} {H1 : Hp} {D : Addr} {Qd : Hp → Prop} (Pv : Nat → Hp → Prop) (h0 : Pv 0 (upd H1 D (.dT []))) (hG : ∀ i H, i ≤ n → Pv i H → G H)
    (hs : ∀ i x H H', i < n → Pv i H → Y i H x H' → g x (wipe σ vs) H' fun σ2 H2 => wipe σ2 vs = wipe σ vs ∧ tk σ2 H2 fun y H3 => tv σ2 H3 fun z H4 =>
      ∃ (kvs : List (List Key × V)) (k : List Key) (b : Addr), y = .ref b ∧ H4 b = some (.tup (k.map kV)) ∧ H4 D = some (.dT kvs) ∧ kvs.length < sizeLine ∧ Pv (i + 1) (upd H4 D (.dT (putK kvs k z))))
    (hd : ∀ H, Pv n H → Qd H) :
    ∃ W : Nat → Nat → Hp → Prop, (∃ m, W 0 m (upd H1 D (.dT []))) ∧ ∀ i m H, W i m H →
      (J.stop i H ∧ Qd H) ∨ (J.go i H ∧ ∃ Nx : Hp → Prop, (∀ H', Nx H' → ∃ m', m' < m ∧ W (i + 1) m' H') ∧ ∀ x H', J.yld i H x H' → g x (wipe σ vs) H' fun σ2 H2 => wipe σ2 vs = wipe σ vs ∧ tk σ2 H2 fun y H3 => tv σ2 H3 fun z H4 =>
        ∃ (kvs : List (List Key × V)) (k : List Key) (b : Addr), y = .ref b ∧ H4 b = some (.tup (k.map kV)) ∧ H4 D = some (.dT kvs) ∧ kvs.length < sizeLine ∧ Nx (upd H4 D (.dT (putK kvs k z)))) := by
  refine ⟨fun i m H => m + i = n ∧ Pv i H, ⟨n, by omega, h0⟩, ?_⟩
  rintro i m H ⟨em, p⟩
  have q := hG i H (by omega) p
  by_cases hlt : i < n
  · exact .inr ⟨w.goes i H hlt q, Pv (i + 1), fun H' p' => ⟨m - 1, by omega, by omega, p'⟩, fun x H' y => hs i x H H' hlt p (w.yields i H x H' hlt q y)⟩
  · have e : i = n := by omega
    subst e
    exact .inl ⟨w.stops H q, hd H p⟩
end
end K53
/-! R5: tuples whose object is known (no attribute dict of their own): displays, slices, tuple(list), t * k; and t.count on them. -/
namespace K53
open PySem PySem.Spec PyProof.Rows L2
/-- a tuple of ints with a bare object -/
def Bare (H : Hp) (a : Addr) (xs : List V) : Prop := ∃ o : Obj, H a = some (.frz o (.tup xs)) ∧ o.dict = none
theorem Bare.sq {K : PySem.W.Frag} {H : Hp} {a : Addr} {xs : List V} (h : Bare H a xs) : SqT K H a xs := by
  obtain ⟨o, h, _⟩ := h
  exact .inl (.inr ⟨o, h⟩)
def NewB (Q : VK) (H : Hp) (xs : List V) : Prop := ∀ (p : Addr) (o : Obj), o.dict = none → H p = none → Q (.ref p) (upd H p (.frz o (.tup xs)))
section
variable {X : Cx} {pins : List (Addr × Obj)} {σ : L2.St} {H : Hp} {s : Shared}
theorem laidB {g : Heap} {xs : List V} {its : Array Value} {Q : VK} (I : Inv X pins σ H { s with heap := g }) (hz : xs.length ≤ sizeLine) {us : List Value} (r : Vals xs us) (e : its = us.toArray) (q : NewB Q H xs) :
    EP X pins σ Q (.ref g.objs.size) { s with heap := g.push { cls := .type "tuple", data := .seq its } } := by
  subst e
  refine ⟨.ref g.objs.size, upd H g.objs.size (.frz { cls := .type "tuple", data := .seq us.toArray } (.tup xs)), ?_, rfl, q _ _ rfl (I.hok.fresh (Nat.le_refl _))⟩
  exact Inv.laid (s := { s with heap := g }) (t' := s.toks) I (fun _ _ z => Heap.get?_push_of_some _ z) (Nat.le_refl _) ⟨Heap.get?_push_size _ rfl, hz, us, r, IsTup.new _ _⟩
/-- a written tuple -/
def tTupB (t : TA) : TE := fun σ H Q => t σ H fun xs H1 => xs.length ≤ sizeLine ∧ NewB Q H1 xs
theorem pe_tupB {es : List Expr} {t : TA} {k : Nat} {pos : Pos} (h : PA X es t) : PE X (.Tuple es k pos) (tTupB t) :=
  ⟨fun pins s σ H Q I hq => wpAny_Tuple_spliced (thn (h.run pos pins s σ H _ I hq) fun us s1 ⟨xs, H1, I1, r, z, q⟩ => ⟨by rw [← r.length]; exact z, laidB I1 z r rfl q⟩)⟩
/-- tuple(list) -/
def rTupOf (K : PySem.W.Frag) : List V → Hp → VK → Prop := fun vs H Q => ∃ (b : Addr) (xs : List V), vs = [V.ref b] ∧ SqL K H b xs ∧ NewB Q H xs
theorem cr_tupB : CallR X (.type "tuple") (rTupOf X.K) := by
  intro pins s σ H vs us Q I r h
  obtain ⟨b, xs, rfl, hq, q⟩ := h
  rw [Vals.ref1 r]
  obtain ⟨its, rv, lp, hz⟩ := I.list hq
  have hn : its.toArray.size ≤ sizeLine := by rw [List.size_toArray, ← rv.length]; exact hz
  refine call_tuple_list lp.isList (fun g kp => ?_) hn
  exact laidB (I.kept (t' := s.toks) kp) hz rv rfl q
/-- t[lo:hi], not the whole -/
def rSlB (K : PySem.W.Frag) : V → Option Int → Option Int → Hp → VK → Prop := fun x lo hi H Q => ∃ (b : Addr) (xs : List V), x = .ref b ∧ SqT K H b xs ∧
  ¬ (HT.sIx xs.length 0 lo = 0 ∧ HT.sIx xs.length xs.length hi = xs.length) ∧ NewB Q H (cutV xs lo hi)
theorem sl_tupB : L2.SlR X (rSlB X.K) := by
  intro pins s σ H x v vl vu lo hi sl Q I rx hs pl pu h
  obtain ⟨b, xs, rfl, hx, hw, q⟩ := h
  cases rx
  obtain ⟨its, rv, ht, hz⟩ := I.tuple hx
  have hn : its.toArray.size = xs.length := by rw [List.size_toArray]; exact rv.length.symm
  refine ⟨"tuple", _, PyProof.Rows.slot_tuple_getitem.lookup, ht.typeIs, HT.getItem_tuple_cut ht hs pl pu (by rw [hn]; exact hw) ?_ (by rw [hn]; exact hz)⟩
  rw [hn]
  exact laidB I (Nat.le_trans (cutV_length xs lo hi) hz) ((rv.drop (HT.sIx xs.length 0 lo)).take (HT.sIx xs.length xs.length hi - HT.sIx xs.length 0 lo)) rfl q
/-- t * k, k at least 2 -/
def rMulB (K : PySem.W.Frag) : R2 := fun x y H Q => ∃ (l : Addr) (k : Int) (xs : List V), x = .ref l ∧ y = .int k ∧ SqT K H l xs ∧ xs ≠ [] ∧ 1 ≤ k ∧ k ≤ 1000 ∧ xs.length ≤ 1000 ∧
  (k = 1 → Q (.ref l) H) ∧ (k ≠ 1 → NewB Q H (List.replicate k.toNat xs).flatten)
theorem op_mulB : OpR X (binaryOp .Mult) (rMulB X.K) := by
  intro pins s σ H x y v u Q I rx ry h
  obtain ⟨l, k, xs, rfl, rfl, hT, hne, k1, k2, k3, q1, q2⟩ := h
  by_cases e : k = 1
  · subst e
    exact op_mulT1 pins s σ H _ _ v u Q I rx ry ⟨l, xs, rfl, rfl, hT, q1 rfl⟩
  have q := q2 e
  cases rx
  obtain ⟨tk, rfl⟩ := ry
  obtain ⟨its, rv, ⟨⟨cls, dd, data, sl⟩, ho, hc, n, hd⟩, hz⟩ := I.tuple hT
  simp only at hc hd
  subst hc hd
  have el : its.length = xs.length := rv.length.symm
  have ee : its.toArray.isEmpty = false := by
    cases its with
    | nil => exact absurd (List.eq_nil_of_length_eq_zero el.symm) hne
    | cons _ _ => rfl
  have big : ((its.toArray.size : Nat) : Int) * k ≤ 1000000 := by
    have z : ((its.toArray.size : Nat) : Int) * k ≤ 1000 * k := Int.mul_le_mul_of_nonneg_right (by rw [List.size_toArray]; omega) (by omega)
    omega
  have fl : (List.replicate k.toNat its).flatten.length ≤ sizeLine := by
    have z : k.toNat * its.length ≤ 1000 * 1000 := Nat.mul_le_mul (by omega) (by omega)
    rw [PyProof.Rows.lm_len_rep_flat, sizeLine_eq]
    omega
  have fx : (List.replicate k.toNat xs).flatten.length ≤ sizeLine := by
    have z : k.toNat * xs.length ≤ 1000 * 1000 := Nat.mul_le_mul (by omega) (by omega)
    rw [PyProof.Rows.lm_len_rep_flat, sizeLine_eq]
    omega
  have d0 : (decide (k < -(2 ^ 63)) || decide (k ≥ 2 ^ 63)) = false := by
    have z1 : ¬ k < -(2 ^ 63) := by omega
    have z2 : ¬ k ≥ 2 ^ 63 := by omega
    simp only [z1, z2, decide_false, Bool.or_self]
  have d1 : (its.toArray.isEmpty || k == 1) = false := by
    rw [ee]
    simpa using e
  have d2 : (decide (k ≤ 0) || its.toArray.isEmpty) = false := by
    have z : ¬ k ≤ 0 := by omega
    rw [ee]
    simpa using z
  have d4 : Builtin.Tuple.tupleTooMany (((its.toArray.size : Nat) : Int) * k) = false := by
    have z : ¬ ((sizeLine : Nat) : Int) < ((its.toArray.size : Nat) : Int) * k := by rw [sizeLine_eq]; omega
    exact decide_eq_false z
  have fin : EP X pins σ Q (.ref s.heap.objs.size) { s with heap := s.heap.push { cls := .type "tuple", data := .seq (List.replicate k.toNat its).flatten.toArray } } := laidB I fx (rv.rep k.toNat) rfl q
  refine wpAny_binaryOp_repeat_ref (T := "tuple") (U := "int") (by decide) ⟨_, ho, rfl⟩ (fun s2 => typeIs_int s2 k tk) noFill_tuple_mul PySem.F.fills_int_mul PySem.F.slot_int_rmul repeat_tuple PySem.F.slot_int_index.lookup
    (call_meets PySem.F.slot_int_rmul (typeIs_int s k tk) PySem.F.entry_int_rmul (PySem.F.args_int_rmul_2 _ _) (int_rmul_tuple k tk l its.toArray n dd sl) ⟨ho, rfl, ⟨_, ho, rfl⟩, ?_⟩)
  refine call_meets PySem.F.slot_tuple_mul ⟨_, ho, rfl⟩ PySem.F.entry_tuple_mul (PySem.F.args_tuple_mul_2 _ _) (tuple_mulW l its.toArray n dd sl k tk d0 d1 d2 (by omega) d4 (by rw [size_rep, List.size_toArray]; exact fl)) ⟨ho, ?_⟩
  rw [size_rep]
  exact fin
/-- t.count(k), the object of t bare -/
def tCnt (to te : TE) : TE := fun σ H Q => to σ H fun x H1 => ∃ (p : Addr) (ns : List Int), x = .ref p ∧ Bare H1 p (ns.map V.int) ∧ te σ H1 fun y H2 => ∃ k : Int, y = .int k ∧ Bare H2 p (ns.map V.int) ∧ Q (.int (ns.count k : Nat)) H2
theorem pe_tcount {o e : Expr} {to te : TE} {apos cpos : Pos} (ho : PE X o to) (he : PE X e te) (m : M1 X o "count" apos e cpos) : PE X (.Call (.Attribute o "count" apos) [e] [] cpos) (tCnt to te) := by
  refine ⟨fun pins s σ H Q I h => wpAny_Call_method_late m.base m.few m.line rfl (thn (ho.run pins s σ H _ I h) fun v s1 ⟨x, H1, I1, rx, p, ns, ex, ⟨ob, hb, hd⟩, q1⟩ => ?_)⟩
  subst ex
  cases rx
  obtain ⟨gt, _, its, _, o2, g2, gc, _⟩ := I1.hok p _ hb
  rw [gt] at g2
  cases g2
  refine ⟨"tuple", _, PySem.F.plainAttrs_tuple, PySem.F.slot_tuple_count, PySem.F.type_tuple_count, ⟨ob, gt, gc⟩, fun b z => by cases z; exact ⟨ob, gt, hd⟩, ?_⟩
  rw [m.trees]
  refine Calls.callWith_builtin rfl (Calls.evalArgs_plain (Calls.spliced_cons (thn (he.run pins s1 σ H1 _ I1 q1) fun iv s2 ⟨y, H2, I2, ry, k, ey, hb2, q2⟩ => Calls.spliced_nil ?_)))
  subst ey
  exact mt_tcount pins s2 σ H2 (.ref p) [.int k] (.ref p) [iv] Q I2 rfl (.cons ry .nil) ⟨p, ns, k, rfl, rfl, hb2.sq, q2⟩
end
end K53
/-! B0: the text by places (printed by wip/gen/gen1.py): each def's statement, its names by slot. -/
namespace K53
open PySem PySem.Spec PyProof.Rows L2
def top (i : Nat) : Stmt := PySem.Challenge.pw_swapsheets_k53_whole_genus_and_all_ones.main.body.getD i (.Pass ⟨0, 0, 0, 0⟩)
abbrev s_is_whole : Stmt := top 11
theorem sc_is_whole : FnScope ["value"] ["value"] (defScope s_is_whole) := ⟨rfl, rfl, rfl, by decide +kernel, rfl, by decide +kernel, by decide +kernel⟩
abbrev s_is_integer : Stmt := top 12
theorem sc_is_integer : FnScope ["value"] ["value"] (defScope s_is_integer) := ⟨rfl, rfl, rfl, by decide +kernel, rfl, by decide +kernel, by decide +kernel⟩
abbrev s_is_within : Stmt := top 13
theorem sc_is_within : FnScope ["value", "least", "most"] ["value", "least", "most"] (defScope s_is_within) := ⟨rfl, rfl, rfl, by decide +kernel, rfl, by decide +kernel, by decide +kernel⟩
abbrev s_require_within : Stmt := top 14
theorem sc_require_within : FnScope ["value", "least", "most"] ["value", "least", "most"] (defScope s_require_within) := ⟨rfl, rfl, rfl, by decide +kernel, rfl, by decide +kernel, by decide +kernel⟩
abbrev s_fraction_in : Stmt := top 15
theorem sc_fraction_in : FnScope ["top", "bottom", "share"] ["top", "bottom"] (defScope s_fraction_in) := ⟨rfl, rfl, rfl, by decide +kernel, rfl, by decide +kernel, by decide +kernel⟩
abbrev s_product_in : Stmt := top 16
theorem sc_product_in : FnScope ["one", "other"] ["one", "other"] (defScope s_product_in) := ⟨rfl, rfl, rfl, by decide +kernel, rfl, by decide +kernel, by decide +kernel⟩
abbrev s_power_in : Stmt := top 17
theorem sc_power_in : FnScope ["number", "many", "found", "here", "left"] ["number", "many"] (defScope s_power_in) := ⟨rfl, rfl, rfl, by decide +kernel, rfl, by decide +kernel, by decide +kernel⟩
abbrev s_factorial_in : Stmt := top 18
theorem sc_factorial_in : FnScope ["number", "found", "step"] ["number"] (defScope s_factorial_in) := ⟨rfl, rfl, rfl, by decide +kernel, rfl, by decide +kernel, by decide +kernel⟩
abbrev s_lots_in : Stmt := top 21
theorem sc_lots_in : FnScope ["total", "found", "whole", "here", "first", "rest"] ["total"] (defScope s_lots_in) := ⟨rfl, rfl, rfl, by decide +kernel, rfl, by decide +kernel, by decide +kernel⟩
abbrev s_squares_in : Stmt := top 22
theorem sc_squares_in : FnScope ["lot", "row", "member", "column"] ["lot"] (defScope s_squares_in) := ⟨rfl, rfl, rfl, by decide +kernel, rfl, by decide +kernel, by decide +kernel⟩
abbrev s_contents_in : Stmt := top 23
theorem sc_contents_in : FnScope ["lot", "row", "column"] ["lot"] (defScope s_contents_in) := ⟨rfl, rfl, rfl, by decide +kernel, rfl, by decide +kernel, by decide +kernel⟩
abbrev s_is_lot : Stmt := top 24
theorem sc_is_lot : FnScope ["value", "one", "other", "member"] ["value"] (defScope s_is_lot) := ⟨rfl, rfl, rfl, by decide +kernel, rfl, by decide +kernel, by decide +kernel⟩
abbrev s_lots : Stmt := top 25
theorem sc_lots : FnScope ["total"] ["total"] (defScope s_lots) := ⟨rfl, rfl, rfl, by decide +kernel, rfl, by decide +kernel, by decide +kernel⟩
abbrev s_beads_in : Stmt := top 27
theorem sc_beads_in : FnScope ["shape", "rows", "members", "at", "member"] ["shape", "rows"] (defScope s_beads_in) := ⟨rfl, rfl, rfl, by decide +kernel, rfl, by decide +kernel, by decide +kernel⟩
abbrev s_lot_in : Stmt := top 28
theorem sc_lot_in : FnScope ["beads", "told", "at", "bead"] ["beads"] (defScope s_lot_in) := ⟨rfl, rfl, rfl, by decide +kernel, rfl, by decide +kernel, by decide +kernel⟩
abbrev s_put_in : Stmt := top 29
theorem sc_put_in : FnScope ["shape", "length", "beads", "found", "at", "bead", "higher", "between", "one"] ["shape", "length"] (defScope s_put_in) := ⟨rfl, rfl, rfl, by decide +kernel, rfl, by decide +kernel, by decide +kernel⟩
abbrev s_reached_in : Stmt := top 30
theorem sc_reached_in : FnScope ["lot", "found", "length", "later", "shape", "number", "made", "sign"] ["lot"] (defScope s_reached_in) := ⟨rfl, rfl, rfl, by decide +kernel, rfl, by decide +kernel, by decide +kernel⟩
abbrev s_column_in : Stmt := top 31
theorem sc_column_in : FnScope ["lot", "found", "shape"] ["lot"] (defScope s_column_in) := ⟨rfl, rfl, rfl, by decide +kernel, rfl, by decide +kernel, by decide +kernel⟩
abbrev s_pairs_in : Stmt := top 37
theorem sc_pairs_in : FnScope ["one", "other", "first", "last", "found", "shape", "number"] ["one", "other"] (defScope s_pairs_in) := ⟨rfl, rfl, rfl, by decide +kernel, rfl, by decide +kernel, by decide +kernel⟩
abbrev s_is_word : Stmt := top 38
theorem sc_is_word : FnScope ["value"] ["value"] (defScope s_is_word) := ⟨rfl, rfl, rfl, by decide +kernel, rfl, by decide +kernel, by decide +kernel⟩
abbrev s_require_word : Stmt := top 39
theorem sc_require_word : FnScope ["value"] ["value"] (defScope s_require_word) := ⟨rfl, rfl, rfl, by decide +kernel, rfl, by decide +kernel, by decide +kernel⟩
abbrev s_is_some_lot : Stmt := top 45
theorem sc_is_some_lot : FnScope ["value"] ["value"] (defScope s_is_some_lot) := ⟨rfl, rfl, rfl, by decide +kernel, rfl, by decide +kernel, by decide +kernel⟩
abbrev s_require_some : Stmt := top 46
theorem sc_require_some : FnScope ["value"] ["value"] (defScope s_require_some) := ⟨rfl, rfl, rfl, by decide +kernel, rfl, by decide +kernel, by decide +kernel⟩
abbrev s_require_both : Stmt := top 47
theorem sc_require_both : FnScope ["one", "other"] ["one", "other"] (defScope s_require_both) := ⟨rfl, rfl, rfl, by decide +kernel, rfl, by decide +kernel, by decide +kernel⟩
abbrev s_require_linked : Stmt := top 48
theorem sc_require_linked : FnScope ["one", "other", "many", "word"] ["one", "other", "many", "word"] (defScope s_require_linked) := ⟨rfl, rfl, rfl, by decide +kernel, rfl, by decide +kernel, by decide +kernel⟩
abbrev s_genus_of : Stmt := top 49
theorem sc_genus_of : FnScope ["one", "other", "many", "double"] ["one", "other", "many"] (defScope s_genus_of) := ⟨rfl, rfl, rfl, by decide +kernel, rfl, by decide +kernel, by decide +kernel⟩
abbrev s_swaps_of_genus : Stmt := top 50
theorem sc_swaps_of_genus : FnScope ["one", "other", "genus"] ["one", "other", "genus"] (defScope s_swaps_of_genus) := ⟨rfl, rfl, rfl, by decide +kernel, rfl, by decide +kernel, by decide +kernel⟩
abbrev s_members_product : Stmt := top 51
theorem sc_members_product : FnScope ["lot", "found", "member"] ["lot"] (defScope s_members_product) := ⟨rfl, rfl, rfl, by decide +kernel, rfl, by decide +kernel, by decide +kernel⟩
abbrev s_factor_row : Stmt := top 52
theorem sc_factor_row : FnScope ["numbers", "word", "many", "found", "number", "step", "place"] ["numbers", "word", "many"] (defScope s_factor_row) := ⟨rfl, rfl, rfl, by decide +kernel, rfl, by decide +kernel, by decide +kernel⟩
abbrev s_shares_of_lot : Stmt := top 53
theorem sc_shares_of_lot : FnScope ["lot", "found", "member", "many", "longer", "one", "other", "ways", "taken", "first", "rest"] ["lot"] (defScope s_shares_of_lot) := ⟨rfl, rfl, rfl, by decide +kernel, rfl, by decide +kernel, by decide +kernel⟩
abbrev s_shares_with_first : Stmt := top 54
theorem sc_shares_with_first : FnScope ["lot", "one", "other", "ways"] ["lot"] (defScope s_shares_with_first) := ⟨rfl, rfl, rfl, by decide +kernel, rfl, by decide +kernel, by decide +kernel⟩
abbrev s_Links_init : Stmt := inClass (top 55) 1
theorem sc_Links_init : FnScope ["self", "word", "many"] ["self", "word", "many"] (defScope s_Links_init) := ⟨rfl, rfl, rfl, by decide +kernel, rfl, by decide +kernel, by decide +kernel⟩
abbrev s_Links_numbered : Stmt := inClass (top 55) 2
theorem sc_Links_numbered : FnScope ["self", "one", "other", "found", "numbers", "number", "row", "entry", "more"] ["self", "one", "other"] (defScope s_Links_numbered) := ⟨rfl, rfl, rfl, by decide +kernel, rfl, by decide +kernel, by decide +kernel⟩
abbrev s_Links_put_beside : Stmt := inClass (top 55) 3
theorem sc_Links_put_beside : FnScope ["self", "one", "other", "ways", "found", "place", "entry", "step", "times"] ["self", "one", "other", "ways"] (defScope s_Links_put_beside) := ⟨rfl, rfl, rfl, by decide +kernel, rfl, by decide +kernel, by decide +kernel⟩
abbrev s_Links_partings : Stmt := inClass (top 55) 4
theorem sc_Links_partings : FnScope ["self", "one", "other", "lasts", "found", "first", "rest", "ways", "last", "left", "more"] ["self", "one", "other"] (defScope s_Links_partings) := ⟨rfl, rfl, rfl, by decide +kernel, rfl, by decide +kernel, by decide +kernel⟩
abbrev s_Links_linked : Stmt := inClass (top 55) 5
theorem sc_Links_linked : FnScope ["self", "one", "other", "found", "first", "rest", "ways", "less", "entry", "number"] ["self", "one", "other"] (defScope s_Links_linked) := ⟨rfl, rfl, rfl, by decide +kernel, rfl, by decide +kernel, by decide +kernel⟩
abbrev s_share_of : Stmt := top 56
theorem sc_share_of : FnScope ["one", "other", "number"] ["one", "other", "number"] (defScope s_share_of) := ⟨rfl, rfl, rfl, by decide +kernel, rfl, by decide +kernel, by decide +kernel⟩
abbrev s_linked_in : Stmt := top 57
theorem sc_linked_in : FnScope ["one", "other", "many", "word"] ["one", "other", "many", "word"] (defScope s_linked_in) := ⟨rfl, rfl, rfl, by decide +kernel, rfl, by decide +kernel, by decide +kernel⟩
abbrev s_linked_number : Stmt := top 58
theorem sc_linked_number : FnScope ["one", "other", "many", "word"] ["one", "other", "many", "word"] (defScope s_linked_number) := ⟨rfl, rfl, rfl, by decide +kernel, rfl, by decide +kernel, by decide +kernel⟩
abbrev s_single_number : Stmt := top 59
theorem sc_single_number : FnScope ["lot", "total", "size", "top", "found", "member"] ["lot"] (defScope s_single_number) := ⟨rfl, rfl, rfl, by decide +kernel, rfl, by decide +kernel, by decide +kernel⟩
abbrev s_rising_single_number : Stmt := top 60
theorem sc_rising_single_number : FnScope ["lot", "total", "size", "top", "bottom", "member", "step"] ["lot"] (defScope s_rising_single_number) := ⟨rfl, rfl, rfl, by decide +kernel, rfl, by decide +kernel, by decide +kernel⟩
abbrev s__law_dice : Stmt := top 62
theorem sc__law_dice : FnScope ["_law_script", "_law_spot", "_law_cell", "_law_left"] ["_law_script", "_law_spot"] (defScope s__law_dice) := ⟨rfl, rfl, rfl, by decide +kernel, rfl, by decide +kernel, by decide +kernel⟩
abbrev s__law_roll : Stmt := top 63
theorem sc__law_roll : FnScope ["_law_dice_here", "_law_total", "_law_found", "_law_one", "_law_two"] ["_law_dice_here", "_law_total"] (defScope s__law_roll) := ⟨rfl, rfl, rfl, by decide +kernel, rfl, by decide +kernel, by decide +kernel⟩
abbrev s__law_pick : Stmt := top 64
theorem sc__law_pick : FnScope ["_law_dice_here", "_law_items"] ["_law_dice_here", "_law_items"] (defScope s__law_pick) := ⟨rfl, rfl, rfl, by decide +kernel, rfl, by decide +kernel, by decide +kernel⟩
abbrev s__law_gcd : Stmt := top 65
theorem sc__law_gcd : FnScope ["_law_one", "_law_other"] ["_law_one", "_law_other"] (defScope s__law_gcd) := ⟨rfl, rfl, rfl, by decide +kernel, rfl, by decide +kernel, by decide +kernel⟩
abbrev s__law_fraction : Stmt := top 66
theorem sc__law_fraction : FnScope ["_law_top", "_law_bottom", "_law_shared"] ["_law_top", "_law_bottom"] (defScope s__law_fraction) := ⟨rfl, rfl, rfl, by decide +kernel, rfl, by decide +kernel, by decide +kernel⟩
abbrev s__law_times : Stmt := top 67
theorem sc__law_times : FnScope ["_law_one", "_law_other"] ["_law_one", "_law_other"] (defScope s__law_times) := ⟨rfl, rfl, rfl, by decide +kernel, rfl, by decide +kernel, by decide +kernel⟩
abbrev s__law_power : Stmt := top 68
theorem sc__law_power : FnScope ["_law_number", "_law_exponent", "_law_found", "_law_turn"] ["_law_number", "_law_exponent"] (defScope s__law_power) := ⟨rfl, rfl, rfl, by decide +kernel, rfl, by decide +kernel, by decide +kernel⟩
abbrev s__law_factorial : Stmt := top 69
theorem sc__law_factorial : FnScope ["_law_number", "_law_found", "_law_step"] ["_law_number"] (defScope s__law_factorial) := ⟨rfl, rfl, rfl, by decide +kernel, rfl, by decide +kernel, by decide +kernel⟩
abbrev s__law_binomial : Stmt := top 70
theorem sc__law_binomial : FnScope ["_law_top", "_law_low", "_law_found", "_law_step"] ["_law_top", "_law_low"] (defScope s__law_binomial) := ⟨rfl, rfl, rfl, by decide +kernel, rfl, by decide +kernel, by decide +kernel⟩
abbrev s__law_lot_of : Stmt := top 71
theorem sc__law_lot_of : FnScope ["_law_members"] ["_law_members"] (defScope s__law_lot_of) := ⟨rfl, rfl, rfl, by decide +kernel, rfl, by decide +kernel, by decide +kernel⟩
abbrev s__law_lot_drawn : Stmt := top 72
theorem sc__law_lot_drawn : FnScope ["_law_dice_here", "_law_total", "_law_found", "_law_left", "_law_member"] ["_law_dice_here", "_law_total"] (defScope s__law_lot_drawn) := ⟨rfl, rfl, rfl, by decide +kernel, rfl, by decide +kernel, by decide +kernel⟩
abbrev s__law_ln_other : Stmt := top 73
theorem sc__law_ln_other : FnScope ["_law_dice_here", "_law_lot", "_law_most", "_law_found"] ["_law_dice_here", "_law_lot", "_law_most"] (defScope s__law_ln_other) := ⟨rfl, rfl, rfl, by decide +kernel, rfl, by decide +kernel, by decide +kernel⟩
abbrev s__law_single : Stmt := top 74
theorem sc__law_single : FnScope ["_law_lot", "_law_rule", "_law_total", "_law_size", "_law_found", "_law_scale", "_law_member", "_law_step"] ["_law_lot", "_law_rule"] (defScope s__law_single) := ⟨rfl, rfl, rfl, by decide +kernel, rfl, by decide +kernel, by decide +kernel⟩
abbrev s__law_genus_right : Stmt := top 75
theorem sc__law_genus_right : FnScope ["_law_dice_here", "_law_total", "_law_one", "_law_other", "_law_many", "_law_genus", "_law_rest", "_law_due", "_law_told"] ["_law_dice_here"] (defScope s__law_genus_right) := ⟨rfl, rfl, rfl, by decide +kernel, rfl, by decide +kernel, by decide +kernel⟩
abbrev s__law_ones_right : Stmt := top 76
theorem sc__law_ones_right : FnScope ["_law_dice_here", "_law_lot", "_law_total", "_law_ones", "_law_many"] ["_law_dice_here"] (defScope s__law_ones_right) := ⟨rfl, rfl, rfl, by decide +kernel, rfl, by decide +kernel, by decide +kernel⟩
abbrev s_law : Stmt := top 77
theorem sc_law : FnScope ["_law_script", "_law_spot", "_law_dice_here", "_law_told"] ["_law_script"] (defScope s_law) := ⟨rfl, rfl, rfl, by decide +kernel, rfl, by decide +kernel, by decide +kernel⟩
end K53
/-! B1: what the top leaves (Tx), a def by its promise (Cal), heaps and data. -/
namespace K53
open PySem PySem.Spec PyProof.Rows L2
/-- a constant of the module -/
def Const (mg : Str → Option Value) (x : Str) (v : V) : Prop := ∃ u, mg x = some u ∧ RelV v u
structure Tx (K : PySem.W.Frag) (mg : Str → Option Value) : Prop where
  isinstance : mg "isinstance" = none
  int : mg "int" = none
  bool : mg "bool" = none
  str : mg "str" = none
  tuple : mg "tuple" = none
  list : mg "list" = none
  all : mg "all" = none
  sum : mg "sum" = none
  zip : mg "zip" = none
  range : mg "range" = none
  enumerate : mg "enumerate" = none
  len : mg "len" = none
  sorted : mg "sorted" = none
  set : mg "set" = none
  max : mg "max" = none
  min : mg "min" = none
  abs : mg "abs" = none
  gcd : mg "gcd" = some (.builtin "math.gcd")
  comb : mg "comb" = some (.builtin "math.comb")
  BOUND : Const mg "BOUND" (.int (10 ^ 60))
  MAX_SUM : Const mg "MAX_SUM" (.int 24)
  MAX_ENDS : Const mg "MAX_ENDS" (.int 10)
  MAX_LINKED : Const mg "MAX_LINKED" (.int 14)
  MOST_LINKED : Const mg "MOST_LINKED" (.int 60)
  MOST_GENUS : Const mg "MOST_GENUS" (.int 20)
  ALL : Const mg "ALL" (.str "all")
  RISING : Const mg "RISING" (.str "rising")
  WORDS : ∃ a, mg "WORDS" = some (.ref a) ∧ ∀ H, SqT K H a [.str "all", .str "rising", .str "strict"]
section
variable {X : Cx} {x : Str} {v : V} {pos : Pos}
theorem pe_k (hg : Gl X x) (h : Const X.mg x v) (hd : (x == ("__debug__" : Str)) = false := by decide) : PE X (.Name x pos) (tC v) := by
  obtain ⟨u, h1, h2⟩ := h
  exact pe_glob hg h1 h2 hd
end
/-- the def st stands under its name x -/
structure DefAt (K : PySem.W.Frag) (mg : Str → Option Value) (x : Str) (st : Stmt) : Prop where
  ex : ∃ f fd, Fun K x x st f fd ∧ mg x = some (.ref f)
/-- a def that may be called by its name -/
structure Cal (P : Program) (w : World) (K : PySem.W.Frag) (mg : Str → Option Value) (base : Heap) (k : Nat) (x : Str) (sp : Sp) : Prop where
  ex : ∃ (f : Addr) (fd : FuncData) (ps : List Str), FnOk P w K mg base CX0 k f fd ps sp ∧ mg x = some (.ref f) ∧ PySem.W.keepIn K (.ref f) = true ∧ Binds K fd ps []
section
variable {P : Program} {w : World} {K : PySem.W.Frag} {mg : Str → Option Value} {base : Heap}
theorem cal_of {x : Str} {st : Stmt} {N ps : List Str} {k : Nat} {sp : Sp} (D : DefAt K mg x st)
    (b : ∀ (kV doc pm : Value) (an : Option Addr) (cdv ct : Value) (us : List Value), us.length = ps.length → bindArgs (PySem.W.fnOf x x (defArgs st) (defBody st) (defScope st) .none kV doc pm an cdv ct) ⟨us, []⟩ = pure (ps.zip us))
    (S : FnScope N ps (defScope st)) (len : ∀ vs H Q E, sp vs H Q E → vs.length = ps.length)
    (body : ∀ (f : Addr) (cdv : Value) (A : Around) (outer : List Env) (s : Shared) (H : Hp) (vs : List V) (Q : VK) (E : XK), Room k (A.deeper (envOfC x (defScope st) s.heap.objs.size f cdv)) → sp vs H Q E →
      ∃ t, PSs (cxOf CX0 P w K mg base N x (defScope st) f cdv A outer s H E).nox (defBody st) t ∧ t { nx := fun _ H' => Q .non H', rt := Q } (start N vs) H) : Cal P w K mg base (k + 1) x sp := by
  obtain ⟨f, fd, F, hm⟩ := D.ex
  exact ⟨f, fd, ps, F.ok S len fun cdv A outer s H vs Q E hr h => body f cdv A outer s H vs Q E hr h, hm, F.kp, F.binds b⟩
end
section
variable {X : Cx} {k j : Nat} {x : Str} {sp : Sp} {p pos : Pos} {e : Expr} {es : List Expr} {t : TA}
/-- f(e, ..): the promise of f -/
def tCl (sp : Sp) (t : TA) : TE := fun σ H Q => t σ H fun vs H1 => sp vs H1 Q E0
theorem pe_c (c : Cal X.prog X.w X.K X.mg X.base k x sp) (hr : Room j X.A) (hk : k ≤ j) (hg : Gl X x) (ha : PA X (e :: es) t)
    (hdb : (x == ("__debug__" : Str)) = false := by decide) (he : starEach (e :: es) X.env = (false, eval e X.env) :: starEach es X.env := by rfl) (hpl : (backTo pos (starEach es X.env)).any (·.1) = false := by rfl) :
    PE X (.Call (.Name x p) (e :: es) [] pos) (tCl sp t) := by
  obtain ⟨f, fd, ps, F, hm, kp, b⟩ := c.ex
  refine ⟨fun pins s σ H Q I h => (pe_call (t := t) F (hr.mono hk) hg hm kp b .nil pass0 ha hdb he hpl).run pins s σ H Q I ?_⟩
  have e0 : (fun (vs : List V) (H1 : Hp) => sp (vs ++ []) H1 Q E0) = fun vs H1 => sp vs H1 Q E0 := by
    funext vs H1
    rw [List.append_nil]
  show t σ H fun vs H1 => sp (vs ++ []) H1 Q E0
  rw [e0]
  exact h
end
/-! ### heaps -/
theorem same_upd {H : Hp} {p : Addr} {o : HO} (h : H p = none) : Same H (upd H p o) := fun b x e => by
  rw [upd_ne (ne_of_none e h)]
  exact e
theorem Same.tup {H H' : Hp} (s : Same H H') : ∀ b ys, H b = some (.tup ys) → H' b = some (.tup ys) := fun b ys e => s b _ e
/-- a tuple of ints -/
def TI (H : Hp) (v : V) (l : List Int) : Prop := ∃ a, v = .ref a ∧ H a = some (.tup (l.map V.int))
theorem TI.mono {H H' : Hp} {v : V} {l : List Int} (h : TI H v l) (s : Same H H') : TI H' v l := by
  obtain ⟨a, e, q⟩ := h
  exact ⟨a, e, s _ _ q⟩
theorem paired_mono {α : Type} {R R' : V → α → Prop} : ∀ {xs : List V} {ds : List α}, Paired R xs ds → (∀ v d, R v d → R' v d) → Paired R' xs ds
  | _, _, .nil, _ => .nil
  | _, _, .cons r t, f => .cons (f _ _ r) (paired_mono t f)
theorem SqT.of' {K : PySem.W.Frag} {H : Hp} {a : Addr} {xs : List V} (h : H a = some (.tup xs)) : SqT K H a xs := .inl (.inl h)
end K53
/-! S0: data in the abstract heap, and the promise of each def. -/
namespace K53
open PySem PySem.Spec PyProof.Rows L2
/-! ### data -/
/-- a tuple of ints, read -/
def TR (H : Hp) (v : V) (l : List Int) : Prop := ∃ a, v = .ref a ∧ Rd H a (.tup (l.map V.int))
/-- a tuple of ints, its object bare -/
def TB (H : Hp) (v : V) (l : List Int) : Prop := ∃ a, v = .ref a ∧ Bare H a (l.map V.int)
theorem Rd.same {H H' : Hp} {a : Addr} {u : HO} (s : Same H H') (h : Rd H a u) : Rd H' a u := by
  rcases h with h | ⟨o, h⟩
  · exact .inl (s _ _ h)
  · exact .inr ⟨o, s _ _ h⟩
theorem Bare.same {H H' : Hp} {a : Addr} {xs : List V} (s : Same H H') (h : Bare H a xs) : Bare H' a xs := by
  obtain ⟨o, h, d⟩ := h
  exact ⟨o, s _ _ h, d⟩
theorem Bare.rd {H : Hp} {a : Addr} {xs : List V} (h : Bare H a xs) : Rd H a (.tup xs) := by
  obtain ⟨o, h, _⟩ := h
  exact .inr ⟨o, h⟩
theorem SqT.rd {K : PySem.W.Frag} {H : Hp} {a : Addr} {xs : List V} (h : Rd H a (.tup xs)) : SqT K H a xs := .inl h
theorem TR.mono {H H' : Hp} {v : V} {l : List Int} (h : TR H v l) (s : Same H H') : TR H' v l := by
  obtain ⟨a, e, q⟩ := h
  exact ⟨a, e, Rd.same s q⟩
theorem TB.mono {H H' : Hp} {v : V} {l : List Int} (h : TB H v l) (s : Same H H') : TB H' v l := by
  obtain ⟨a, e, q⟩ := h
  exact ⟨a, e, Bare.same s q⟩
theorem TI.r {H : Hp} {v : V} {l : List Int} (h : TI H v l) : TR H v l := by
  obtain ⟨a, e, q⟩ := h
  exact ⟨a, e, .inl q⟩
theorem TB.r {H : Hp} {v : V} {l : List Int} (h : TB H v l) : TR H v l := by
  obtain ⟨a, e, q⟩ := h
  exact ⟨a, e, Bare.rd q⟩
theorem Same.kt {H H' : Hp} (s : Same H H') : KeepT H H' := fun b x _ h => s b x h
/-- a pair of two bare tuples -/
def PairB (H : Hp) (q : Addr) (k : PK2) : Prop := ∃ p1 p2, H q = some (.tup [.ref p1, .ref p2]) ∧ Bare H p1 (k.1.map V.int) ∧ Bare H p2 (k.2.map V.int)
theorem PairB.t {H : Hp} {q : Addr} {k : PK2} (h : PairB H q k) : PairT H q k := by
  obtain ⟨p1, p2, e, h1, h2⟩ := h
  exact ⟨p1, p2, e, Bare.rd h1, Bare.rd h2⟩
theorem PairB.same {H H' : Hp} {q : Addr} {k : PK2} (s : Same H H') (h : PairB H q k) : PairB H' q k := by
  obtain ⟨p1, p2, e, h1, h2⟩ := h
  exact ⟨p1, p2, s _ _ e, Bare.same s h1, Bare.same s h2⟩
/-- a lot of a sum -/
structure Lot (t : Nat) (l : LI) : Prop where
  sum : l.sum = (t : Int)
  pos : ∀ m ∈ l, 1 ≤ m
  desc : l.Pairwise (· ≥ ·)
/-- a lot that the program takes -/
def Good (l : LI) : Prop := ∃ t, 1 ≤ t ∧ t ≤ 24 ∧ Lot t l
/-- a small lot -/
def Tiny (l : LI) : Prop := ∃ t, t ≤ 7 ∧ Lot t l
abbrev key (l : LI) : List Key := l.map Sum.inl
theorem key_kV (l : LI) : (key l).map kV = l.map V.int := by
  unfold key
  rw [List.map_map]
  rfl
/-- a list (dict) of int values by lots, as a dict of the program -/
def enc (kvs : List (LI × Int)) : List (List Key × V) := kvs.map fun p => (key p.1, V.int p.2)
/-- a pair of a lot's tuple and an int -/
def PSg (H : Hp) (v : V) (d : LI × Int) : Prop := ∃ t a, v = .ref t ∧ H t = some (.tup [.ref a, .int d.2]) ∧ H a = some (.tup (d.1.map V.int))
/-- a pair of a list of ints and an int -/
def PCn (H : Hp) (v : V) (d : LI × Int) : Prop := ∃ t a, v = .ref t ∧ H t = some (.tup [.ref a, .int d.2]) ∧ H a = some (.lst (d.1.map V.int))
/-- two lots and an int -/
def PSh (H : Hp) (v : V) (d : LI × LI × Int) : Prop := ∃ t a b, v = .ref t ∧ H t = some (.tup [.ref a, .ref b, .int d.2.2]) ∧ Bare H a (d.1.map V.int) ∧ Bare H b (d.2.1.map V.int)
/-- two pairs of lots and an int -/
def PPt (H : Hp) (v : V) (d : (LI × LI) × (LI × LI) × Int) : Prop := ∃ t a b, v = .ref t ∧ H t = some (.tup [.ref a, .ref b, .int d.2.2]) ∧ PairB H a d.1 ∧ PairB H b d.2.1
theorem PSg.mono {H H' : Hp} {v : V} {d : LI × Int} (h : PSg H v d) (s : Same H H') : PSg H' v d := by
  obtain ⟨t, a, e, h1, h2⟩ := h
  exact ⟨t, a, e, s _ _ h1, s _ _ h2⟩
theorem PCn.mono {H H' : Hp} {v : V} {d : LI × Int} (h : PCn H v d) (s : Same H H') : PCn H' v d := by
  obtain ⟨t, a, e, h1, h2⟩ := h
  exact ⟨t, a, e, s _ _ h1, s _ _ h2⟩
theorem PSh.mono {H H' : Hp} {v : V} {d : LI × LI × Int} (h : PSh H v d) (s : Same H H') : PSh H' v d := by
  obtain ⟨t, a, b, e, h1, h2, h3⟩ := h
  exact ⟨t, a, b, e, s _ _ h1, Bare.same s h2, Bare.same s h3⟩
theorem PPt.mono {H H' : Hp} {v : V} {d : (LI × LI) × (LI × LI) × Int} (h : PPt H v d) (s : Same H H') : PPt H' v d := by
  obtain ⟨t, a, b, e, h1, h2, h3⟩ := h
  exact ⟨t, a, b, e, s _ _ h1, PairB.same s h2, PairB.same s h3⟩
/-- the two words -/
def wordS : Bool → Str
  | true => "all"
  | false => "rising"
/-! ### promises -/
def spWhole : Sp := fun vs H Q _ => ∃ i : Int, vs = [.int i] ∧ Q (.bl true) H
def Inside (i : Int) : Prop := -(10 ^ 60) < i ∧ i < 10 ^ 60
def spInteger : Sp := fun vs H Q _ => ∃ i : Int, vs = [.int i] ∧ Inside i ∧ Q (.bl true) H
def spWithin : Sp := fun vs H Q _ => ∃ i a b : Int, vs = [.int i, .int a, .int b] ∧ Inside i ∧ a ≤ i ∧ i ≤ b ∧ Q (.bl true) H
def spReqWithin : Sp := fun vs H Q _ => ∃ i a b : Int, vs = [.int i, .int a, .int b] ∧ Inside i ∧ a ≤ i ∧ i ≤ b ∧ Q .non H
def fracT (x : Int × Int) : HO := .tup [.int x.1, .int x.2]
def spFrac : Sp := fun vs H Q _ => ∃ a b : Int, vs = [.int a, .int b] ∧ 0 < b ∧ b.natAbs < 2 ^ 8000 ∧ ∀ p, H p = none → Q (.ref p) (upd H p (fracT (frac a b)))
def spProd : Sp := fun vs H Q _ => ∃ (p q : Addr) (x y : Int × Int), vs = [.ref p, .ref q] ∧ H p = some (fracT x) ∧ H q = some (fracT y) ∧ 0 < x.2 ∧ 0 < y.2 ∧
  x.1.natAbs < 2 ^ 4000 ∧ x.2.natAbs < 2 ^ 4000 ∧ y.1.natAbs < 2 ^ 4000 ∧ y.2.natAbs < 2 ^ 4000 ∧ ∀ r, H r = none → Q (.ref r) (upd H r (fracT (frac (x.1 * y.1) (x.2 * y.2))))
def spPower : Sp := fun vs H Q _ => ∃ (n : Int) (k : Nat), vs = [.int n, .int (k : Nat)] ∧ k ≤ 60 ∧ n.natAbs < 2 ^ 64 ∧ Q (.int (n ^ k)) H
def spFact : Sp := fun vs H Q _ => ∃ n : Nat, vs = [.int (n : Nat)] ∧ n ≤ 60 ∧ Q (.int (facI n)) H
def spLotsIn : Sp := fun vs H Q _ => ∃ n : Nat, vs = [.int (n : Nat)] ∧ n ≤ 7 ∧ ∀ p H' xs, Same H H' → H' p = some (.lst xs) → Paired (TI H') xs (lotsM n) → Q (.ref p) H'
def spSquares : Sp := fun vs H Q _ => ∃ v l, vs = [v] ∧ TI H v l ∧ Tiny l ∧ ∀ p H' xs, Same H H' → H' p = some (.lst xs) → Paired (TI H') xs (sqM l) → Q (.ref p) H'
def spContents : Sp := fun vs H Q _ => ∃ v l, vs = [v] ∧ TI H v l ∧ Tiny l ∧ ∀ p H', H p = none → Same H H' → H' p = some (.lst ((contM l).map V.int)) → Q (.ref p) H'
def spLotTrue : Sp := fun vs H Q _ => ∃ v l, vs = [v] ∧ TR H v l ∧ Good l ∧ ∀ H', Same H H' → Q (.bl true) H'
def spReqSome : Sp := fun vs H Q _ => ∃ v l, vs = [v] ∧ TR H v l ∧ Good l ∧ ∀ H', Same H H' → Q .non H'
def spLots : Sp := fun vs H Q _ => ∃ n : Nat, vs = [.int (n : Nat)] ∧ n ≤ 7 ∧ ∀ p H' xs, Same H H' → H' p = some (.tup xs) → Paired (TI H') xs (lotsM n) → Q (.ref p) H'
def spBeads : Sp := fun vs H Q _ => ∃ (v : V) (l : LI) (n : Nat), vs = [v, .int (n : Nat)] ∧ TI H v l ∧ l.length ≤ n ∧ n ≤ 40 ∧ ∀ p H', Same H H' → H' p = some (.lst ((beadsM l n).map V.int)) → Q (.ref p) H'
def spLotIn : Sp := fun vs H Q _ => ∃ (p : Addr) (bs : LI), vs = [.ref p] ∧ H p = some (.lst (bs.map V.int)) ∧ bs.length < 64 ∧ ∀ v H', Same H H' → TI H' v (lotInM bs) → Q v H'
def spPut : Sp := fun vs H Q _ => ∃ (v : V) (l : LI) (n : Nat), vs = [v, .int (n : Nat)] ∧ TI H v l ∧ l.length ≤ 10 ∧ n ≤ 10 ∧ ∀ p H' xs, Same H H' → H' p = some (.lst xs) → Paired (PSg H') xs (putM l n) → Q (.ref p) H'
def spReached : Sp := fun vs H Q _ => ∃ v l, vs = [v] ∧ TR H v l ∧ Tiny l ∧ ∀ d H', Same H H' → H' d = some (.dT (enc (reachM l))) → Q (.ref d) H'
def spColumn : Sp := fun vs H Q _ => ∃ v l, vs = [v] ∧ TR H v l ∧ Tiny l ∧ ∀ d H', Same H H' → H' d = some (.dT (enc (colM l))) → Q (.ref d) H'
def spPairs : Sp := fun vs H Q _ => ∃ v l u m, vs = [v, u] ∧ TR H v l ∧ TR H u m ∧ Tiny l ∧ Tiny m ∧ l.sum = m.sum ∧ ∀ p H' xs, Same H H' → H' p = some (.lst xs) → Paired (PCn H') xs (pairsM l m) → Q (.ref p) H'
def spIsWord : Sp := fun vs H Q _ => ∃ b, vs = [.str (wordS b)] ∧ Q (.bl true) H
def spReqWord : Sp := fun vs H Q _ => ∃ b, vs = [.str (wordS b)] ∧ Q .non H
def spReqBoth : Sp := fun vs H Q _ => ∃ v l u m, vs = [v, u] ∧ TR H v l ∧ TR H u m ∧ Good l ∧ Good m ∧ l.sum = m.sum ∧ ∀ H', Same H H' → Q .non H'
def spReqLinked : Sp := fun vs H Q _ => ∃ v l u m, ∃ (k : Nat) (b : Bool), vs = [v, u, .int (k : Nat), .str (wordS b)] ∧ TR H v l ∧ TR H u m ∧ Good l ∧ Good m ∧ l.sum = m.sum ∧ l.sum ≤ 14 ∧ k ≤ 60 ∧ l.length + m.length ≤ 10 ∧ ∀ H', Same H H' → Q .non H'
def genusV (k : Nat) (l m : LI) : V := if ((k : Int) + 2 - (l.length : Int) - (m.length : Int)) % 2 = 0 then .int (((k : Int) + 2 - (l.length : Int) - (m.length : Int)) / 2) else .non
def spGenus : Sp := fun vs H Q _ => ∃ v l u m, ∃ k : Nat, vs = [v, u, .int (k : Nat)] ∧ TR H v l ∧ TR H u m ∧ Good l ∧ Good m ∧ l.sum = m.sum ∧ k ≤ 60 ∧ ∀ H', Same H H' → Q (genusV k l m) H'
def spSwaps : Sp := fun vs H Q _ => ∃ v l u m, ∃ g : Nat, vs = [v, u, .int (g : Nat)] ∧ TR H v l ∧ TR H u m ∧ Good l ∧ Good m ∧ l.sum = m.sum ∧ g ≤ 20 ∧ ∀ H', Same H H' → Q (.int (2 * (g : Int) - 2 + (l.length : Int) + (m.length : Int))) H'
def spMembers : Sp := fun vs H Q _ => ∃ v l, vs = [v] ∧ TR H v l ∧ (∀ m ∈ l, m.natAbs < 2 ^ 64) ∧ l.length ≤ 40 ∧ Q (.int (prodI l)) H
def spFactorRow : Sp := fun vs H Q _ => ∃ (p : Addr) (cs : LI) (b : Bool) (k : Nat), vs = [.ref p, .str (wordS b), .int (k : Nat)] ∧ H p = some (.lst (cs.map V.int)) ∧ (∀ c ∈ cs, c.natAbs < 100) ∧ cs.length ≤ 100 ∧ k ≤ 60 ∧
  ∀ q H', Same H H' → H' q = some (.lst ((factorRow cs b k).map V.int)) → Q (.ref q) H'
def spShares : Sp := fun vs H Q _ => ∃ v l, vs = [v] ∧ TB H v l ∧ Tiny l ∧ ∀ p H' xs, Same H H' → H' p = some (.lst xs) → Paired (PSh H') xs (sharesM l) → Q (.ref p) H'
def spSharesF : Sp := fun vs H Q _ => ∃ v l, vs = [v] ∧ TB H v l ∧ l ≠ [] ∧ Tiny l ∧ ∀ p H' xs, Same H H' → H' p = some (.lst xs) → Paired (PSh H') xs (sharesFirstM l) → Q (.ref p) H'
def spShareOf : Sp := fun vs H Q _ => ∃ v l u m, ∃ n : Int, vs = [v, u, .int n] ∧ TR H v l ∧ TR H u m ∧ Tiny l ∧ Tiny m ∧ ∀ p H', Same H H' → H' p = some (fracT (frac n (prodI l * prodI m))) → Q (.ref p) H'
end K53
/-! B2: readings by one step (for rd), lists made turn by turn. -/
namespace K53
open PySem PySem.Spec PyProof.Rows L2
section
variable {t u : TS} {D : Ends} {σ : L2.St} {H : Hp} {Q : VK} {te ta tb tc : TE} {tA : TA} {i j l : Nat} {QA : List V → Hp → Prop} {QT : Bool → Hp → Prop} {c d : TT} {K : PySem.W.Frag} {x y z : V} {vs : List V}
theorem ap_seq : tSeq t u D σ H = t { D with nx := u D } σ H := rfl
theorem ap_next : tNext D σ H = D.nx σ H := rfl
theorem ap_never : tNever D σ H = False := rfl
theorem ap_drop : tDrop te D σ H = te σ H fun _ H1 => D.nx σ H1 := rfl
theorem ap_ret : tRet te D σ H = te σ H D.rt := rfl
theorem ap_retN : tRetN D σ H = D.rt .non H := rfl
theorem ap_ifS : tIfS c t u D σ H = c σ H fun b H1 => if b = true then t D σ H1 else u D σ H1 := rfl
theorem ap_asg {g : TG} : tAsg te g D σ H = te σ H fun x H1 => g x σ H1 D.nx := rfl
theorem ap_par : tPar i j tA D σ H = tA σ H fun vs H1 => ∃ v w, vs = [v, w] ∧ D.nx ((σ.set i (some v)).set j (some w)) H1 := rfl
theorem ap_par3 : tPar3 i j l tA D σ H = tA σ H fun vs H1 => ∃ u v w, vs = [u, v, w] ∧ D.nx (((σ.set i (some u)).set j (some v)).set l (some w)) H1 := rfl
theorem ap_aug {ti : TIp} : tAug i te ti D σ H = ∃ x, σ[i]? = some (some x) ∧ te σ H fun y H1 => ti x y H1 fun z H2 => D.nx (σ.set i (some z)) H2 := rfl
theorem ap_nm {Qs : L2.St → Hp → Prop} : gName i x σ H Qs = Qs (σ.set i (some x)) H := rfl
theorem ap_test : tTest te σ H QT = te σ H fun x H' => ∃ k, x = .bl k ∧ QT k H' := rfl
theorem ap_tB : tB te σ H QT = te σ H fun x H1 => ∃ c, x = .bl c ∧ QT c H1 := rfl
theorem ap_and : tAnd c d σ H QT = c σ H fun c H1 => if c = true then d σ H1 QT else QT false H1 := rfl
theorem ap_or : tOr c d σ H QT = c σ H fun c H1 => if c = true then QT true H1 else d σ H1 QT := rfl
theorem ap_not : tNot c σ H QT = c σ H fun c H1 => QT (!c) H1 := rfl
theorem ap_if : tIf c ta tb σ H Q = c σ H fun c H1 => if c = true then ta σ H1 Q else tb σ H1 Q := rfl
theorem ap_andV : tAndV ta tb σ H Q = ta σ H fun x H1 => ∃ c, x = .bl c ∧ if c = true then tb σ H1 Q else Q (.bl false) H1 := rfl
theorem ap_notV : tNotV ta σ H Q = ta σ H fun x H1 => ∃ c, x = .bl c ∧ Q (.bl (!c)) H1 := rfl
theorem ap_op {r : R2} : tOp r ta tb σ H Q = ta σ H fun x H1 => tb σ H1 fun y H2 => r x y H2 Q := rfl
theorem ap_un {r : V → Hp → VK → Prop} : tUn r ta σ H Q = ta σ H fun x H1 => r x H1 Q := rfl
theorem ap_c : tC x σ H Q = Q x H := rfl
theorem ap_var : tVar i σ H Q = ∃ v, σ[i]? = some (some v) ∧ Q v H := rfl
theorem ap_nil : tNil σ H QA = QA [] H := rfl
theorem ap_cons : tCons te tA σ H QA = te σ H fun x H1 => tA σ H1 fun xs H2 => QA (x :: xs) H2 := rfl
theorem ap_tup : tTup tA σ H Q = tA σ H fun xs H1 => xs.length ≤ sizeLine ∧ ∀ p, H1 p = none → Q (.ref p) (upd H1 p (.tup xs)) := rfl
theorem ap_lst : tLst tA σ H Q = tA σ H fun xs H1 => xs.length ≤ sizeLine ∧ ∀ p, H1 p = none → Q (.ref p) (upd H1 p (.lst xs)) := rfl
theorem ap_cl {sp : Sp} : tCl sp tA σ H Q = tA σ H fun vs H1 => sp vs H1 Q E0 := rfl
theorem ap_cb {r : List V → Hp → VK → Prop} : tCB r tA σ H Q = tA σ H fun vs H1 => r vs H1 Q := rfl
theorem ap_bm {T : String} {r : V → List V → Hp → VK → Prop} : tBM K T r te tA σ H Q = te σ H fun x H1 => tyV K T x H1 ∧ tA σ H1 fun xs H2 => r x xs H2 Q := rfl
theorem ap_bm0 {T : String} {r : V → List V → Hp → VK → Prop} : tBM0 K T r te σ H Q = te σ H fun x H1 => tyV K T x H1 ∧ r x [] H1 Q := rfl
theorem ap_sl {r : V → Option Int → Option Int → Hp → VK → Prop} {tl th : TO} : L2.tSl r te tl th σ H Q = te σ H fun x H1 => tl σ H1 fun l H2 => th σ H2 fun u H3 => r x l u H3 Q := rfl
theorem ap_nopart {q : Option Int → Hp → Prop} : tNoPart σ H q = q none H := rfl
theorem ap_part {q : Option Int → Hp → Prop} : tPart te σ H q = te σ H fun x H1 => ∃ i, x = .int i ∧ q (some i) H1 := rfl
theorem ap_chain {r r' : R2} : tChain r r' ta tb tc σ H Q = ta σ H fun x H1 => tb σ H1 fun y H2 => r x y H2 fun z H3 => ∃ k, z = .bl k ∧ if k = true then tc σ H3 fun w H4 => r' y w H4 Q else Q (.bl false) H3 := rfl
theorem ap_fld {f : Str} : SlX.tSl K ta f σ H Q = ta σ H fun x H1 => ∃ a C dx p vs i v, x = .ref a ∧ SlX.Slt H1 a C dx vs ∧ SlX.SCls K C ∧ SlX.Slot1 K C f p i ∧ vs[i]? = some (some v) ∧ Q v H1 := rfl
theorem ap_gtup {n : Nat} {ts : TGs} {Qs : L2.St → Hp → Prop} : gTup K n ts x σ H Qs = ∃ a xs, x = .ref a ∧ SqT K H a xs ∧ xs.length = n ∧ ts xs σ H Qs := rfl
theorem ap_gcons {g : TG} {ts : TGs} {Qs : L2.St → Hp → Prop} : gCons g ts vs σ H Qs = ∃ v r, vs = v :: r ∧ g v σ H fun σ' H' => ts r σ' H' Qs := rfl
theorem ap_gnil {Qs : L2.St → Hp → Prop} : gNil vs σ H Qs = (vs = [] ∧ Qs σ H) := rfl
theorem ap_yes : tYes σ H QT = QT true H := rfl
theorem ap_revL : tRevL K te σ H Q = te σ H fun x H1 => ∃ a xs, x = .ref a ∧ SqL K H1 a xs ∧ ∀ p, H1 p = none → Q (.ref p) (upd H1 p (.lst xs.reverse)) := rfl
theorem ap_star : StX.tStar K te tA σ H QA = te σ H fun x H1 => ∃ p xs, x = V.ref p ∧ (SqT K H1 p xs ∨ SqL K H1 p xs) ∧ tA σ H1 fun ys H2 => QA (xs ++ ys) H2 := rfl
/-- a for loop over a walked thing J -/
def tForI (J : It) (g : TG) (tb : TS) : TS := fun D σ H => ∃ W : Nat → Nat → L2.St → Hp → Prop, (∃ m, W 0 m σ H) ∧ ∀ i m σ H, W i m σ H →
  (J.stop i H ∧ D.nx σ H) ∨ (J.go i H ∧ ∃ N : L2.St → Hp → Prop, (∀ σ' H', N σ' H' → ∃ m', m' < m ∧ W (i + 1) m' σ' H') ∧ ∀ x H', J.yld i H x H' → g x σ H' fun σ2 H2 => tb { D with nx := N, ct := N, bk := D.nx } σ2 H2)
theorem ap_for {wi : L2.TI} {g : TG} : tFor wi g t D σ H = wi σ H fun J H1 => tForI J g t D σ H1 := rfl
/-- a list comprehension over a walked thing J, D the new list -/
def tLcI (J : It) (g : TG) (tt : TT) (te : TE) (vs : List Nat) (D : Addr) (σ : L2.St) (H1 : Hp) (Qd : Hp → Prop) : Prop := ∃ W : Nat → Nat → Hp → Prop, (∃ m, W 0 m (upd H1 D (.lst []))) ∧ ∀ i m H, W i m H →
  (J.stop i H ∧ Qd H) ∨ (J.go i H ∧ ∃ Nx : Hp → Prop, (∀ H', Nx H' → ∃ m', m' < m ∧ W (i + 1) m' H') ∧ ∀ x H', J.yld i H x H' → g x (wipe σ vs) H' fun σ2 H2 => wipe σ2 vs = wipe σ vs ∧ tt σ2 H2 fun b H3 =>
    if b = true then te σ2 H3 fun y H4 => ∃ acc, H4 D = some (.lst acc) ∧ acc.length < sizeLine ∧ Nx (upd H4 D (.lst (acc ++ [y]))) else Nx H3)
theorem ap_lc {wi : L2.TI} {g : TG} {tt : TT} {is : List Nat} : tLc wi g tt te is σ H Q = wi σ H fun J H1 => ∀ D, H1 D = none → tLcI J g tt te is D σ H1 fun H => Q (.ref D) H := rfl
theorem w_tup {R : It → Hp → Prop} : iTup K te σ H R = te σ H fun x H1 => ∃ a, x = .ref a ∧ (∃ xs, SqT K H1 a xs) ∧ R (Itt K a) H1 := rfl
theorem w_list {R : It → Hp → Prop} : iList K te σ H R = te σ H fun x H1 => ∃ a, x = .ref a ∧ (∃ xs, SqL K H1 a xs) ∧ R (Itl K a) H1 := rfl
theorem w_r1 {R : It → Hp → Prop} : iRng1 tA σ H R = tA σ H fun vs H1 => ∃ j : Int, vs = [.int j] ∧ -(2 ^ 62) ≤ j ∧ j < 2 ^ 62 ∧ R (Itr 0 j.toNat) H1 := rfl
theorem w_r2 {R : It → Hp → Prop} : iRng2 tA σ H R = tA σ H fun vs H1 => ∃ i j : Int, vs = [.int i, .int j] ∧ (-(2 ^ 62) ≤ i ∧ i < 2 ^ 62 ∧ -(2 ^ 62) ≤ j ∧ j < 2 ^ 62) ∧ R (Itr i (j - i).toNat) H1 := rfl
theorem w_enum {R : It → Hp → Prop} : iEnum K tA σ H R = tA σ H fun vs H1 => ∃ a xs, vs = [.ref a] ∧ SqL K H1 a xs ∧ R (Ite K a) H1 := rfl
theorem w_zip {R : It → Hp → Prop} : RZ.iZipA K tA σ H R = tA σ H fun vs H1 => ∃ a b xs ys, vs = [.ref a, .ref b] ∧ ((SqL K H1 a xs ∧ SqL K H1 b ys ∧ R (Itz K a b) H1) ∨ (SqT K H1 a xs ∧ SqT K H1 b ys ∧ R (RZ.ItzT K a b) H1)) := rfl
theorem r_I {C : Int → Int → Prop} {g : Int → Int → V} : rI C g x y H Q = ∃ i j, x = .int i ∧ y = .int j ∧ C i j ∧ Q (g i j) H := rfl
theorem r_I0 {g : Int → Int → V} : rI0 g x y H Q = ∃ i j, x = .int i ∧ y = .int j ∧ Q (g i j) H := rfl
theorem r_U {g : Int → V} : rU g x H Q = ∃ i, x = .int i ∧ Q (g i) H := rfl
theorem r_eq : rEq x y H Q = (scal x y = true ∧ Q (.bl (decide (x = y))) H) := rfl
theorem r_ne : rNe x y H Q = (scal x y = true ∧ Q (.bl (!decide (x = y))) H) := rfl
theorem r_isi : rIsi K vs H Q = ∃ (x c : V) (t u : Value) (b : Bool), vs = [x, c] ∧ ClsV c u ∧ TyX K H x t ∧ PySem.W.kitOne K t u = some b ∧ Q (.bl b) H := rfl
theorem r_ixT : rIxT K x y H Q = ∃ p xs i v, x = .ref p ∧ y = .int i ∧ SqT K H p xs ∧ atI xs i = some v ∧ Q v H := rfl
theorem r_ixL : rIxL K x y H Q = ∃ p xs i v, x = .ref p ∧ y = .int i ∧ SqL K H p xs ∧ atI xs i = some v ∧ Q v H := rfl
theorem r_gcd : rGcd vs H Q = ∃ a b : Int, vs = [.int a, .int b] ∧ Q (.int ((Nat.gcd a.natAbs b.natAbs : Nat) : Int)) H := rfl
theorem r_comb : rComb vs H Q = ∃ a b : Int, vs = [.int a, .int b] ∧ 0 ≤ a ∧ 0 ≤ b ∧ a < 1000 ∧ Q (.int (PySem.W.mcComb a b)) H := rfl
theorem r_sumT : rSumT K vs H Q = ∃ (a : Addr) (ns : List Int), vs = [V.ref a] ∧ SqT K H a (ns.map V.int) ∧ Q (.int ns.sum) H := rfl
theorem r_sum : rSum K vs H Q = ∃ (a : Addr) (ns : List Int), vs = [V.ref a] ∧ SqL K H a (ns.map V.int) ∧ Q (.int ns.sum) H := rfl
theorem r_rep : rRep x y H Q = ∃ l k xs, x = .ref l ∧ y = .int k ∧ H l = some (.lst xs) ∧ -(2 ^ 63) ≤ k ∧ k < 2 ^ 63 ∧ xs.length * k.toNat ≤ sizeLine ∧
  ∀ p, H p = none → Q (.ref p) (upd H p (.lst (List.replicate k.toNat xs).flatten)) := rfl
theorem r_sorted : rSorted K vs H Q = ∃ (a : Addr) (ns : List Int), vs = [V.ref a] ∧ SqL K H a (ns.map V.int) ∧ ns.length < 64 ∧
  ∀ (ns' : List Int) (p : Addr), ns'.Perm ns → ns'.Pairwise (· ≤ ·) → H p = none → Q (.ref p) (upd H p (.lst (ns'.map V.int))) := rfl
theorem r_all : rAll K vs H Q = ∃ (a : Addr) (bs : List Bool), vs = [V.ref a] ∧ SqL K H a (bs.map V.bl) ∧ Q (.bl (bs.all id)) H := rfl
theorem r_slL {lo hi : Option Int} : rSlL K x lo hi H Q = ∃ a xs, x = .ref a ∧ SqL K H a xs ∧ ∀ p, H p = none → Q (.ref p) (upd H p (.lst (cutV xs lo hi))) := rfl
theorem r_in {n : Bool} : rIn K n x y H Q = ∃ p xs, y = .ref p ∧ (SqL K H p xs ∨ SqT K H p xs) ∧ flatV x = true ∧ xs.all flatV = true ∧ Q (.bl (if n then !inV x xs else inV x xs)) H := rfl
theorem r_app : rAppend x vs H Q = ∃ l xs y, x = .ref l ∧ vs = [y] ∧ H l = some (.lst xs) ∧ xs.length < sizeLine ∧ Q .non (upd H l (.lst (xs ++ [y]))) := rfl
end
section
variable {X : Cx}
theorem ip_mulW : PIp X .Mult (rI CMulW fun i j => .int (i * j)) := by
  intro pins s σ H x y v u Q I rx ry h
  obtain ⟨i, j, rfl, rfl, c, q⟩ := h
  obtain ⟨t, rfl⟩ := rx
  obtain ⟨t', rfl⟩ := ry
  exact imul_int ⟨.int _, H, I.tok _, ⟨_, rfl⟩, q⟩ c.ok
theorem hu_of64 {A : Around} {k : Nat} (hr : Room k A) : A.units + 64 < cLine := hr.units
end
theorem SqL.of' {K : PySem.W.Frag} {H : Hp} {a : Addr} {xs : List V} (h : H a = some (.lst xs)) : SqL K H a xs := SqL.of h
theorem Same.refl {H : Hp} : Same H H := fun _ _ h => h
theorem Same.trans {H H' H2 : Hp} (s : Same H H') (t : Same H' H2) : Same H H2 := fun a o h => t _ _ (s _ _ h)
theorem Same.no {H H' : Hp} (s : Same H H') {a : Addr} (h : H' a = none) : H a = none := by
  cases e : H a with
  | none => rfl
  | some o => rw [s _ _ e] at h; cases h
theorem Same.upd {H H' : Hp} {p : Addr} {o : HO} (s : Same H H') (h : H' p = none) : Same H (upd H' p o) := fun b x e => by
  rw [upd_ne (ne_of_none (s _ _ e) h)]
  exact s _ _ e
/-- all but D stay -/
def SameX (D : Addr) (H H' : Hp) : Prop := ∀ a o, a ≠ D → H a = some o → H' a = some o
theorem SameX.refl {D : Addr} {H : Hp} : SameX D H H := fun _ _ _ h => h
theorem SameX.trans {D : Addr} {H H' H2 : Hp} (s : SameX D H H') (t : SameX D H' H2) : SameX D H H2 := fun a o n h => t _ _ n (s _ _ n h)
theorem Same.x {D : Addr} {H H' : Hp} (s : Same H H') : SameX D H H' := fun a o _ h => s a o h
theorem SameX.upd {D : Addr} {H : Hp} {o : HO} : SameX D H (upd H D o) := fun a x n h => by rw [upd_ne n]; exact h
theorem TI.monoX {D : Addr} {H H' : Hp} {v : V} {l acc : List Int} {L : List V} (h : TI H v l) (hD : H D = some (.lst L)) (s : SameX D H H') : TI H' v l := by
  obtain ⟨a, e, q⟩ := h
  exact ⟨a, e, s _ _ (ne_of q hD (by intro z; cases z)) q⟩
/-- a relation of items and data that a list's growth leaves -/
def Keeps {α : Type} (D : Addr) (Rel : Hp → V → α → Prop) : Prop := ∀ H H' v d L, Rel H v d → H D = some (.lst L) → SameX D H H' → Rel H' v d
theorem keeps_int {D : Addr} : Keeps D (fun _ v (d : Int) => v = .int d) := fun _ _ _ _ _ h _ _ => h
theorem keeps_TI {D : Addr} : Keeps D TI := fun H H' v d L h hD s => TI.monoX (acc := []) h hD s
theorem keeps_PSg {D : Addr} : Keeps D PSg := fun H H' v d L h hD s => by
  obtain ⟨t, a, e, h1, h2⟩ := h
  exact ⟨t, a, e, s _ _ (ne_of h1 hD (by intro z; cases z)) h1, s _ _ (ne_of h2 hD (by intro z; cases z)) h2⟩
theorem Bare.keepX {D : Addr} {H H' : Hp} {a : Addr} {xs L : List V} (h : Bare H a xs) (hD : H D = some (.lst L)) (s : SameX D H H') : Bare H' a xs := by
  obtain ⟨o, h, d⟩ := h
  exact ⟨o, s _ _ (ne_of h hD (by intro z; cases z)) h, d⟩
theorem PairB.keepX {D : Addr} {H H' : Hp} {q : Addr} {k : PK2} {L : List V} (h : PairB H q k) (hD : H D = some (.lst L)) (s : SameX D H H') : PairB H' q k := by
  obtain ⟨p1, p2, e, h1, h2⟩ := h
  exact ⟨p1, p2, s _ _ (ne_of e hD (by intro z; cases z)) e, Bare.keepX h1 hD s, Bare.keepX h2 hD s⟩
theorem keeps_PSh {D : Addr} : Keeps D PSh := fun H H' v d L h hD s => by
  obtain ⟨t, a, b, e, h1, h2, h3⟩ := h
  exact ⟨t, a, b, e, s _ _ (ne_of h1 hD (by intro z; cases z)) h1, Bare.keepX h2 hD s, Bare.keepX h3 hD s⟩
theorem keeps_PPt {D : Addr} : Keeps D PPt := fun H H' v d L h hD s => by
  obtain ⟨t, a, b, e, h1, h2, h3⟩ := h
  exact ⟨t, a, b, e, s _ _ (ne_of h1 hD (by intro z; cases z)) h1, PairB.keepX h2 hD s, PairB.keepX h3 hD s⟩
theorem paired_push {α : Type} {R : V → α → Prop} : ∀ {xs : List V} {ds : List α} {x : V} {d : α}, Paired R xs ds → R x d → Paired R (xs ++ [x]) (ds ++ [d])
  | _, _, _, _, .nil, r => .cons r .nil
  | _, _, _, _, .cons h t, r => .cons h (paired_push t r)
theorem paired_app {α : Type} {R : V → α → Prop} : ∀ {xs ys : List V} {ds es : List α}, Paired R xs ds → Paired R ys es → Paired R (xs ++ ys) (ds ++ es)
  | _, _, _, _, .nil, r => r
  | _, _, _, _, .cons h t, r => .cons h (paired_app t r)
theorem paired_len {α : Type} {R : V → α → Prop} : ∀ {xs : List V} {ds : List α}, Paired R xs ds → xs.length = ds.length
  | _, _, .nil => rfl
  | _, _, .cons _ t => by simp [paired_len t]
theorem paired_at {α : Type} {R : V → α → Prop} : ∀ {xs : List V} {ds : List α} {i : Nat} {x : V}, Paired R xs ds → xs[i]? = some x → ∃ d, ds[i]? = some d ∧ R x d
  | _, _, 0, _, .cons r _, e => ⟨_, rfl, by cases e; exact r⟩
  | _, _, i + 1, _, .cons _ t, e => paired_at (i := i) t e
theorem paired_at' {α : Type} {R : V → α → Prop} : ∀ {xs : List V} {ds : List α} {i : Nat} {d : α}, Paired R xs ds → ds[i]? = some d → ∃ x, xs[i]? = some x ∧ R x d
  | _, _, 0, _, .cons r _, e => ⟨_, rfl, by cases e; exact r⟩
  | _, _, i + 1, _, .cons _ t, e => paired_at' (i := i) t e
theorem paired_ints : ∀ {xs : List V} {ds : List Int}, Paired (fun v (d : Int) => v = .int d) xs ds → xs = ds.map V.int
  | _, _, .nil => rfl
  | _, _, .cons r t => by rw [r, paired_ints t]; rfl
theorem ints_paired : ∀ {ds : List Int}, Paired (fun v (d : Int) => v = .int d) (ds.map V.int) ds
  | [] => .nil
  | _ :: _ => .cons rfl ints_paired
theorem paired_bls : ∀ {xs : List V} {ds : List Bool}, Paired (fun v (d : Bool) => v = .bl d) xs ds → xs = ds.map V.bl
  | _, _, .nil => rfl
  | _, _, .cons r t => by rw [r, paired_bls t]; rfl
/-- a list at D that is made turn by turn: out i behind i turns -/
structure Mk1 {α : Type} (Rel : Hp → V → α → Prop) (out : Nat → List α) (H1 : Hp) (D : Addr) (i : Nat) (H : Hp) : Prop where
  same : Same H1 H
  acc : ∃ acc, H D = some (.lst acc) ∧ Paired (Rel H) acc (out i)
section
variable {α : Type} {Rel : Hp → V → α → Prop} {out : Nat → List α} {H1 H H4 H3 : Hp} {D : Addr} {i : Nat} {y : V} {d : α}
theorem Mk1.zero (o : out 0 = []) (h : H1 D = none) : Mk1 Rel out H1 D 0 (upd H1 D (.lst [])) :=
  ⟨same_upd h, [], upd_same, by rw [o]; exact .nil⟩
theorem Mk1.push (p : Mk1 Rel out H1 D i H) (k : Keeps D Rel) (hD : H1 D = none) (s : Same H H4) (r : Rel H4 y d) (o : out (i + 1) = out i ++ [d]) (small : (out i).length < sizeLine) :
    ∃ acc, H4 D = some (.lst acc) ∧ acc.length < sizeLine ∧ Mk1 Rel out H1 D (i + 1) (upd H4 D (.lst (acc ++ [y]))) := by
  obtain ⟨acc, h, q⟩ := p.acc
  have h4 := s _ _ h
  refine ⟨acc, h4, by rw [paired_len q]; exact small, fun a x e => ?_, acc ++ [y], upd_same, ?_⟩
  · rw [upd_ne (ne_of_none e hD)]
    exact s _ _ (p.same _ _ e)
  · rw [o]
    exact paired_push (paired_mono q fun v e re => k _ _ _ _ _ re h ((Same.x s).trans SameX.upd)) (k _ _ _ _ _ r h4 SameX.upd)
theorem Mk1.skip (p : Mk1 Rel out H1 D i H) (k : Keeps D Rel) (s : Same H H3) (o : out (i + 1) = out i) : Mk1 Rel out H1 D (i + 1) H3 := by
  obtain ⟨acc, h, q⟩ := p.acc
  exact ⟨p.same.trans s, acc, s _ _ h, by rw [o]; exact paired_mono q fun v e re => k _ _ _ _ _ re h (Same.x s)⟩
end
theorem Mk1.stay {α : Type} {Rel : Hp → V → α → Prop} {out out' : Nat → List α} {H1 H H3 : Hp} {D : Addr} {i j : Nat} (p : Mk1 Rel out H1 D i H) (k : Keeps D Rel) (s : Same H H3) (o : out' j = out i) : Mk1 Rel out' H1 D j H3 := by
  obtain ⟨acc, h, q⟩ := p.acc
  exact ⟨p.same.trans s, acc, s _ _ h, by rw [o]; exact paired_mono q fun v e re => k _ _ _ _ _ re h (Same.x s)⟩
/-- the accumulation of a map over a list -/
theorem take_map {α β : Type} {f : α → β} {l : List α} {i : Nat} {a : α} (h : l[i]? = some a) : (l.take (i + 1)).map f = (l.take i).map f ++ [f a] := by
  rw [List.take_succ, h]
  simp
theorem take_flat {α β : Type} {f : α → List β} {l : List α} {i : Nat} {a : α} (h : l[i]? = some a) : (l.take (i + 1)).flatMap f = (l.take i).flatMap f ++ f a := by
  rw [List.take_succ, h]
  simp
theorem take_filter {α : Type} {f : α → Bool} {l : List α} {i : Nat} {a : α} (h : l[i]? = some a) : (l.take (i + 1)).filter f = (l.take i).filter f ++ (if f a then [a] else []) := by
  rw [List.take_succ, h]
  simp [List.filter_cons, List.filter_nil]
theorem cx_K {CX : CXT} {P : Program} {w : World} {K : PySem.W.Frag} {mg : Str → Option Value} {base : Heap} {N : List Str} {qual : Str} {scope : Scope} {f : Addr} {cd : Value} {A : Around} {outer : List Env} {s : Shared} {H : Hp} {E : XK} : (cxOf CX P w K mg base N qual scope f cd A outer s H E).K = K := rfl
theorem cx_Kn {CX : CXT} {P : Program} {w : World} {K : PySem.W.Frag} {mg : Str → Option Value} {base : Heap} {N : List Str} {qual : Str} {scope : Scope} {f : Addr} {cd : Value} {A : Around} {outer : List Env} {s : Shared} {H : Hp} {E : XK} : (cxOf CX P w K mg base N qual scope f cd A outer s H E).nox.K = K := rfl
theorem at_ints {l : List Int} {i : Nat} {x : V} (h : (l.map V.int)[i]? = some x) : ∃ m, l[i]? = some m ∧ x = .int m ∧ m ∈ l := by
  rw [List.getElem?_map] at h
  cases e : l[i]? with
  | none => rw [e] at h; cases h
  | some m => rw [e] at h; cases h; exact ⟨m, rfl, rfl, List.mem_of_getElem? e⟩
theorem keeps_bl {D : Addr} : Keeps D (fun _ v (d : Bool) => v = .bl d) := fun _ _ _ _ _ h _ _ => h
theorem Mk1.ints {out : Nat → List Int} {H1 H : Hp} {D : Addr} {i : Nat} (p : Mk1 (fun _ v d => v = .int d) out H1 D i H) : H D = some (.lst ((out i).map V.int)) := by
  obtain ⟨acc, h, q⟩ := p.acc
  rw [h, paired_ints q]
theorem Mk1.bls {out : Nat → List Bool} {H1 H : Hp} {D : Addr} {i : Nat} (p : Mk1 (fun _ v d => v = .bl d) out H1 D i H) : H D = some (.lst ((out i).map V.bl)) := by
  obtain ⟨acc, h, q⟩ := p.acc
  rw [h, paired_bls q]
end K53
/-! B3: data of ints as PyData; plain facts of lots. -/
namespace K53
open PySem PySem.Spec PyProof.Rows L2
def dI (l : List Int) : PyData := .tuple (l.map PyData.int)
def dIs (l : List Int) : PyData := .list (l.map PyData.int)
theorem dpAll_ints {K : PySem.W.Frag} {H : Hp} : ∀ l : List Int, DpAll K H (l.map V.int) (l.map PyData.int)
  | [] => .nil
  | i :: l => .cons (.int i) (dpAll_ints l)
theorem dp_TR {K : PySem.W.Frag} {H : Hp} {v : V} {l : List Int} (h : TR H v l) : Dp K H v (dI l) := by
  obtain ⟨a, rfl, h⟩ := h
  exact .tup (SqT.rd h) (dpAll_ints l)
theorem dp_TI {K : PySem.W.Frag} {H : Hp} {v : V} {l : List Int} (h : TI H v l) : Dp K H v (dI l) := by
  obtain ⟨a, rfl, h⟩ := h
  exact .tup (SqT.of' h) (dpAll_ints l)
theorem ints_lay : ∀ l : List Int, PyData.canLayAll0 (l.map PyData.int) = true
  | [] => rfl
  | i :: l => by
    show (PyData.canLay0 (.int i) && PyData.canLayAll0 (l.map PyData.int)) = true
    rw [ints_lay l]
    rfl
theorem ints_depth : ∀ l : List Int, PyData.depthAll (l.map PyData.int) = 0
  | [] => rfl
  | i :: l => by
    have := ints_depth l
    simp only [List.map_cons, PyData.depthAll, PyData.depth, this]
    rfl
theorem dI_shaped (l : List Int) : SeqAt.shaped (dI l) = true := by
  have h1 := ints_depth l
  show (PyData.canLay0 (dI l) && decide ((dI l).depth ≤ 64)) = true
  rw [Bool.and_eq_true]
  refine ⟨by unfold dI; simp only [PyData.canLay0]; exact ints_lay l, decide_eq_true ?_⟩
  unfold dI
  simp only [PyData.depth, h1]
  omega
theorem dI_all : ∀ l m : List Int, PyData.eqvAll (l.map PyData.int) (m.map PyData.int) = decide (l = m)
  | [], [] => by simp [PyData.eqvAll]
  | [], _ :: _ => by simp [PyData.eqvAll]
  | _ :: _, [] => by simp [PyData.eqvAll]
  | i :: l, j :: m => by
    rw [List.map_cons, List.map_cons]
    simp only [PyData.eqvAll, PyData.eqv]
    rw [dI_all l m]
    by_cases h : i = j <;> by_cases h2 : l = m <;> simp [h, h2]
theorem dI_eqv (l m : List Int) : PyData.eqv (dI l) (dI m) = decide (l = m) := by
  unfold dI
  simp only [PyData.eqv]
  exact dI_all l m
theorem lenTI {K : PySem.W.Frag} {H : Hp} {v : V} {l : List Int} (h : TI H v l) : LenV K v H l.length := by
  obtain ⟨a, rfl, e⟩ := h
  exact .inr ⟨_, SqT.of' e, by simp⟩
theorem lenTR {K : PySem.W.Frag} {H : Hp} {v : V} {l : List Int} (h : TR H v l) : LenV K v H l.length := by
  obtain ⟨a, rfl, e⟩ := h
  exact .inr ⟨_, SqT.rd e, by simp⟩
theorem ty_rd {K : PySem.W.Frag} {H : Hp} {a : Addr} {xs : List V} (h : Rd H a (.tup xs)) : TyX K H (.ref a) (.type "tuple") := by
  rcases h with h | ⟨o, h⟩
  · exact TyX.base (TyOf.tup h)
  · exact TyX.fTuple h
theorem inside {i : Int} (h : -1000 < i ∧ i < 1000) : Inside i := by
  have := (by decide : (1000:Int) < 10 ^ 60)
  exact ⟨by omega, by omega⟩
theorem all_rep : ∀ n : Nat, (List.replicate n true).all id = true
  | 0 => rfl
  | n + 1 => by rw [List.replicate_succ, List.all_cons, all_rep n]; rfl
theorem cut1 {α : Type} (f : α → V) (l : List α) : cutV (l.map f) (some 1) none = l.tail.map f := by
  cases l with
  | nil => rfl
  | cons x l =>
    show ((List.map f (x :: l)).drop (HT.sIx (List.map f (x :: l)).length 0 (some 1))).take (HT.sIx (List.map f (x :: l)).length (List.map f (x :: l)).length none - HT.sIx (List.map f (x :: l)).length 0 (some 1)) = _
    have e1 : HT.sIx (List.map f (x :: l)).length 0 (some 1) = 1 := by
      simp [HT.sIx]
    have e2 : HT.sIx (List.map f (x :: l)).length (List.map f (x :: l)).length none = (List.map f (x :: l)).length := by simp [HT.sIx]
    rw [e1, e2]
    simp
    rw [← List.map_take]
    simp
theorem six1 {n d : Nat} (h : 0 < n) : HT.sIx n d (some 1) = 1 := by
  simp [HT.sIx]
  omega
theorem at0 {x : V} {l : List V} : atI (x :: l) 0 = some x := atI_nat (j := 0) rfl
theorem at1 {x y : V} {l : List V} : atI (x :: y :: l) 1 = some y := atI_nat (j := 1) rfl
theorem at2 {x y z : V} {l : List V} : atI (x :: y :: z :: l) 2 = some z := atI_nat (j := 2) rfl
theorem TI.nil {H : Hp} {p : Addr} : TI (upd H p (.tup [])) (.ref p) [] := ⟨p, rfl, upd_same⟩
section
variable {K : PySem.W.Frag} {H : Hp} {x y : V} {l m : List Int} {Q : VK}
theorem eqTI (h1 : TI H x l) (h2 : TI H y m) (q : Q (.bl (decide (l = m))) H) : rEqD K x y H Q :=
  ⟨_, _, dp_TI h1, dp_TI h2, dI_shaped _, dI_shaped _, by rw [dI_eqv]; exact q⟩
theorem neTR (h1 : TR H x l) (h2 : TR H y m) (q : Q (.bl (!decide (l = m))) H) : rNeD K x y H Q :=
  ⟨_, _, dp_TR h1, dp_TR h2, dI_shaped _, dI_shaped _, by rw [dI_eqv]; exact q⟩
theorem neTI (h1 : TI H x l) (h2 : TI H y m) (q : Q (.bl (!decide (l = m))) H) : rNeD K x y H Q :=
  ⟨_, _, dp_TI h1, dp_TI h2, dI_shaped _, dI_shaped _, by rw [dI_eqv]; exact q⟩
end
/-! ### lots -/
theorem le_sum_of_pos : ∀ {l : LI}, (∀ m ∈ l, 1 ≤ m) → ∀ m ∈ l, m ≤ l.sum
  | [], _, m, h => by cases h
  | x :: l, p, m, h => by
    have hp : ∀ m ∈ l, 1 ≤ m := fun m hm => p m (List.mem_cons_of_mem _ hm)
    have nn : ∀ (r : LI), (∀ m ∈ r, (1 : Int) ≤ m) → 0 ≤ r.sum := fun r hr => by
      induction r with
      | nil => exact Int.le_refl _
      | cons a r ih =>
        rw [List.sum_cons]
        have := hr a List.mem_cons_self
        have := ih fun m hm => hr m (List.mem_cons_of_mem _ hm)
        omega
    rw [List.sum_cons]
    rcases List.mem_cons.mp h with rfl | h
    · have := nn l hp; omega
    · have := le_sum_of_pos hp m h
      have := p x List.mem_cons_self
      omega
theorem len_le_sum : ∀ {l : LI}, (∀ m ∈ l, 1 ≤ m) → (l.length : Int) ≤ l.sum
  | [], _ => Int.le_refl _
  | x :: l, p => by
    rw [List.sum_cons, List.length_cons]
    have := len_le_sum fun m hm => p m (List.mem_cons_of_mem _ hm)
    have := p x List.mem_cons_self
    omega
theorem Lot.le {t : Nat} {l : LI} (h : Lot t l) {m : Int} (hm : m ∈ l) : m ≤ t := by
  rw [← h.sum]
  exact le_sum_of_pos h.pos m hm
theorem Lot.len {t : Nat} {l : LI} (h : Lot t l) : l.length ≤ t := by
  have := len_le_sum h.pos
  rw [h.sum] at this
  exact_mod_cast this
theorem Good.len {l : LI} (h : Good l) : l.length ≤ 24 := by
  obtain ⟨t, _, h2, q⟩ := h
  exact Nat.le_trans q.len h2
theorem Good.mem {l : LI} (h : Good l) {m : Int} (hm : m ∈ l) : 1 ≤ m ∧ m ≤ 24 := by
  obtain ⟨t, _, h2, q⟩ := h
  have := q.le hm
  exact ⟨q.pos m hm, by omega⟩
theorem Good.ne {l : LI} (h : Good l) : l ≠ [] := by
  obtain ⟨t, h1, _, q⟩ := h
  rintro rfl
  have := q.sum
  simp at this
  omega
theorem Good.sum {l : LI} (h : Good l) : 1 ≤ l.sum ∧ l.sum ≤ 24 := by
  obtain ⟨t, h1, h2, q⟩ := h
  rw [q.sum]
  omega
theorem Good.desc {l : LI} (h : Good l) : l.Pairwise (· ≥ ·) := by
  obtain ⟨t, _, _, q⟩ := h
  exact q.desc
theorem Tiny.len {l : LI} (h : Tiny l) : l.length ≤ 7 := by
  obtain ⟨t, h2, q⟩ := h
  exact Nat.le_trans q.len h2
theorem Tiny.mem {l : LI} (h : Tiny l) {m : Int} (hm : m ∈ l) : 1 ≤ m ∧ m ≤ 7 := by
  obtain ⟨t, h2, q⟩ := h
  have := q.le hm
  exact ⟨q.pos m hm, by omega⟩
theorem Tiny.sum {l : LI} (h : Tiny l) : 0 ≤ l.sum ∧ l.sum ≤ 7 := by
  obtain ⟨t, h2, q⟩ := h
  rw [q.sum]
  omega
end K53
/-! B4: two clauses; sorted lists; lists of the mirrors by place. -/
namespace K53
open PySem PySem.Spec PyProof.Rows L2
section
variable {J J1 : It} {g g1 : TG} {tt tt1 : TT} {wi wi1 : L2.TI} {te : TE} {vs vs1 : List Nat} {D : Addr} {σ : L2.St} {H : Hp} {Q : VK}
def tIn (J1 : It) (g1 : TG) (tt1 : TT) (te : TE) (vs1 : List Nat) (D : Addr) (σ2 : L2.St) (H4 : Hp) (Nx : Hp → Prop) : Prop := ∃ W1 : Nat → Nat → Hp → Prop, (∃ m, W1 0 m H4) ∧ ∀ j k H, W1 j k H →
  (J1.stop j H ∧ Nx H) ∨ (J1.go j H ∧ ∃ Nx1 : Hp → Prop, (∀ H', Nx1 H' → ∃ k', k' < k ∧ W1 (j + 1) k' H') ∧ ∀ x H', J1.yld j H x H' → g1 x (wipe σ2 vs1) H' fun σ3 H5 => wipe σ3 vs1 = wipe σ2 vs1 ∧ tt1 σ3 H5 fun b H6 =>
    if b = true then te σ3 H6 fun y H7 => ∃ acc, H7 D = some (.lst acc) ∧ acc.length < sizeLine ∧ Nx1 (upd H7 D (.lst (acc ++ [y]))) else Nx1 H6)
def tOut (J : It) (g : TG) (tt : TT) (wi1 : L2.TI) (g1 : TG) (tt1 : TT) (te : TE) (vs vs1 : List Nat) (D : Addr) (σ : L2.St) (H1 : Hp) (Qd : Hp → Prop) : Prop := ∃ W : Nat → Nat → Hp → Prop, (∃ m, W 0 m (upd H1 D (.lst []))) ∧ ∀ i m H, W i m H →
  (J.stop i H ∧ Qd H) ∨ (J.go i H ∧ ∃ Nx : Hp → Prop, (∀ H', Nx H' → ∃ m', m' < m ∧ W (i + 1) m' H') ∧ ∀ x H', J.yld i H x H' → g x (wipe σ vs) H' fun σ2 H2 => wipe σ2 vs = wipe σ vs ∧ tt σ2 H2 fun b H3 =>
    if b = true then wi1 σ2 H3 fun J1 H4 => tIn J1 g1 tt1 te vs1 D σ2 H4 Nx else Nx H3)
theorem ap_lc2 : tLc2 wi g tt wi1 g1 tt1 te vs vs1 σ H Q = wi σ H fun J H1 => ∀ D, H1 D = none → tOut J g tt wi1 g1 tt1 te vs vs1 D σ H1 fun H => Q (.ref D) H := rfl
theorem w_enumT {K : PySem.W.Frag} {tA : TA} {R : It → Hp → Prop} : iEnumT K tA σ H R = tA σ H fun vs H1 => ∃ a xs, vs = [.ref a] ∧ SqT K H1 a xs ∧ R (IteT K a) H1 := rfl
theorem out_it {n : Nat} {G : Hp → Prop} {Y : Nat → Hp → V → Hp → Prop} {Qd : Hp → Prop} (w : Walk J n G Y) (Pv : Nat → Hp → Prop) (h0 : Pv 0 (upd H D (.lst []))) (hG : ∀ i H, i ≤ n → Pv i H → G H)
    (hs : ∀ i x H H', i < n → Pv i H → Y i H x H' → g x (wipe σ vs) H' fun σ2 H2 => wipe σ2 vs = wipe σ vs ∧ tt σ2 H2 fun b H3 => if b = true then wi1 σ2 H3 fun J1 H4 => tIn J1 g1 tt1 te vs1 D σ2 H4 (Pv (i + 1)) else Pv (i + 1) H3)
    (hd : ∀ H, Pv n H → Qd H) : tOut J g tt wi1 g1 tt1 te vs vs1 D σ H Qd := by
  refine ⟨fun i m H => m = n - i ∧ i ≤ n ∧ Pv i H, ⟨n, by simp, Nat.zero_le _, h0⟩, ?_⟩
  rintro i m H ⟨rfl, hi, p⟩
  have q := hG i H hi p
  by_cases hlt : i < n
  · exact .inr ⟨w.goes i H hlt q, Pv (i + 1), fun H' p' => ⟨n - (i + 1), by omega, rfl, hlt, p'⟩, fun x H' y => hs i x H H' hlt p (w.yields i H x H' hlt q y)⟩
  · have e : i = n := by omega
    subst e
    exact .inl ⟨w.stops H q, hd H p⟩
theorem in_it {n : Nat} {G : Hp → Prop} {Y : Nat → Hp → V → Hp → Prop} {Nx : Hp → Prop} (w : Walk J1 n G Y) (Pv : Nat → Hp → Prop) (h0 : Pv 0 H) (hG : ∀ i H, i ≤ n → Pv i H → G H)
    (hs : ∀ j x H H', j < n → Pv j H → Y j H x H' → g1 x (wipe σ vs1) H' fun σ3 H5 => wipe σ3 vs1 = wipe σ vs1 ∧ tt1 σ3 H5 fun b H6 =>
      if b = true then te σ3 H6 fun y H7 => ∃ acc, H7 D = some (.lst acc) ∧ acc.length < sizeLine ∧ Pv (j + 1) (upd H7 D (.lst (acc ++ [y]))) else Pv (j + 1) H6)
    (hd : ∀ H, Pv n H → Nx H) : tIn J1 g1 tt1 te vs1 D σ H Nx := by
  refine ⟨fun i m H => m = n - i ∧ i ≤ n ∧ Pv i H, ⟨n, by simp, Nat.zero_le _, h0⟩, ?_⟩
  rintro i m H ⟨rfl, hi, p⟩
  have q := hG i H hi p
  by_cases hlt : i < n
  · exact .inr ⟨w.goes i H hlt q, Pv (i + 1), fun H' p' => ⟨n - (i + 1), by omega, rfl, hlt, p'⟩, fun x H' y => hs i x H H' hlt p (w.yields i H x H' hlt q y)⟩
  · have e : i = n := by omega
    subst e
    exact .inl ⟨w.stops H q, hd H p⟩
end
theorem range_flat {β : Type} (f : Nat → List β) (i : Nat) : (List.range (i + 1)).flatMap f = (List.range i).flatMap f ++ f i := by
  rw [List.range_succ]
  simp
/-! ### a list that another one tells by place -/
theorem take_push {α : Type} {l : List α} {i : Nat} {a : α} (h : l[i]? = some a) : l.take (i + 1) = l.take i ++ [a] := by
  rw [List.take_succ, h]
  rfl
theorem sqFrom_push : ∀ (l : LI) (r m : Int), sqFrom r (l ++ [m]) = sqFrom r l ++ sqRow (r + l.length) m
  | [], r, m => by simp [sqFrom]
  | x :: l, r, m => by
    show sqRow r x ++ sqFrom (r + 1) (l ++ [m]) = (sqRow r x ++ sqFrom (r + 1) l) ++ _
    rw [sqFrom_push l, List.append_assoc, List.length_cons]
    congr 3
    push_cast
    omega
theorem sqFrom_len : ∀ (l : LI) (r : Int), (∀ m ∈ l, m ≤ 7) → (sqFrom r l).length ≤ 7 * l.length
  | [], r, _ => Nat.le_refl _
  | x :: l, r, h => by
    have := sqFrom_len l (r + 1) fun m hm => h m (List.mem_cons_of_mem _ hm)
    have := h x List.mem_cons_self
    show (sqRow r x ++ sqFrom (r + 1) l).length ≤ _
    simp [sqRow]
    omega
theorem sq_two : ∀ (l : LI) (r0 : Int) (d : LI), d ∈ sqFrom r0 l → ∃ r c, d = [r, c]
  | [], _, d, h => by cases h
  | x :: l, r0, d, h => by
    rcases List.mem_append.mp (show d ∈ sqRow r0 x ++ sqFrom (r0 + 1) l from h) with h | h
    · obtain ⟨c, _, rfl⟩ := List.mem_map.mp h
      exact ⟨_, _, rfl⟩
    · exact sq_two l _ d h
theorem contFrom_sq : ∀ (l : LI) (r : Int), contFrom r l = (sqFrom r l).map fun p => p.getD 1 0 - p.getD 0 0
  | [], r => rfl
  | x :: l, r => by
    show contRow r x ++ contFrom (r + 1) l = (sqRow r x ++ sqFrom (r + 1) l).map _
    rw [contFrom_sq l, List.map_append]
    congr 1
    unfold contRow sqRow
    rw [List.map_map]
    rfl
theorem beads_at : ∀ (l : LI) (rows a : Int) (i : Nat), (beadsFrom rows a l)[i]? = (l[i]?).map fun m => m + rows - 1 - (a + i)
  | [], _, _, _ => by simp [beadsFrom]
  | x :: l, rows, a, 0 => by simp [beadsFrom]
  | x :: l, rows, a, i + 1 => by
    show (beadsFrom rows (a + 1) l)[i]? = _
    rw [beads_at l]
    simp only [List.getElem?_cons_succ]
    congr 1
    funext m
    push_cast
    omega
theorem beadsFrom_len : ∀ (l : LI) (rows a : Int), (beadsFrom rows a l).length = l.length
  | [], _, _ => rfl
  | x :: l, rows, a => by
    show (beadsFrom rows (a + 1) l).length + 1 = _
    rw [beadsFrom_len l]
    rfl
theorem beadsM_len {l : LI} {n : Nat} (h : l.length ≤ n) : (beadsM l n).length = n := by
  unfold beadsM
  rw [beadsFrom_len]
  simp
  omega
theorem lotIn_push : ∀ (l : LI) (a b : Int), lotInFrom a (l ++ [b]) = lotInFrom a l ++ (if b > a + l.length then [b - (a + l.length)] else [])
  | [], a, b => by
    show lotInFrom a [b] = _
    unfold lotInFrom
    simp [lotInFrom]
  | x :: l, a, b => by
    have ih := lotIn_push l (a + 1) b
    have e : a + 1 + (l.length : Int) = a + ((x :: l).length : Nat) := by rw [List.length_cons]; push_cast; omega
    rw [e] at ih
    show lotInFrom a (x :: (l ++ [b])) = _
    unfold lotInFrom
    split
    · rw [ih]; rfl
    · exact ih
theorem lotIn_len : ∀ (l : LI) (a : Int), (lotInFrom a l).length ≤ l.length
  | [], a => Nat.le_refl _
  | x :: l, a => by
    have := lotIn_len l (a + 1)
    unfold lotInFrom
    split
    · simpa using this
    · exact Nat.le_succ_of_le this
theorem ins_perm (x : Int) : ∀ l : LI, (ins x l).Perm (x :: l)
  | [] => List.Perm.refl _
  | y :: l => by
    unfold ins
    split
    · exact List.Perm.refl _
    · exact ((ins_perm x l).cons y).trans (List.Perm.swap x y l)
theorem isort_perm : ∀ l : LI, (isort l).Perm l
  | [] => List.Perm.refl _
  | x :: l => (ins_perm x (isort l)).trans ((isort_perm l).cons x)
theorem ins_sorted (x : Int) : ∀ l : LI, l.Pairwise (· ≤ ·) → (ins x l).Pairwise (· ≤ ·)
  | [], _ => by simp [ins]
  | y :: l, h => by
    unfold ins
    have hc := List.pairwise_cons.mp h
    split
    · rename_i hxy
      refine List.pairwise_cons.mpr ⟨fun z hz => ?_, h⟩
      rcases List.mem_cons.mp hz with rfl | hz
      · exact hxy
      · exact Int.le_trans hxy (hc.1 z hz)
    · rename_i hxy
      refine List.pairwise_cons.mpr ⟨fun z hz => ?_, ins_sorted x l hc.2⟩
      rcases List.mem_cons.mp ((ins_perm x l).mem_iff.mp hz) with rfl | hz
      · omega
      · exact hc.1 z hz
theorem isort_sorted : ∀ l : LI, (isort l).Pairwise (· ≤ ·)
  | [] => List.Pairwise.nil
  | x :: l => ins_sorted x _ (isort_sorted l)
theorem sorted_unique : ∀ {l m : LI}, l.Perm m → l.Pairwise (· ≤ ·) → m.Pairwise (· ≤ ·) → l = m
  | [], m, p, _, _ => (List.Perm.nil_eq p)
  | x :: l, [], p, _, _ => by have := p.length_eq; simp at this
  | x :: l, y :: m, p, hl, hm => by
    have h1 := List.pairwise_cons.mp hl
    have h2 := List.pairwise_cons.mp hm
    have e : x = y := by
      have hx : x ∈ y :: m := p.mem_iff.mp List.mem_cons_self
      have hy : y ∈ x :: l := p.mem_iff.mpr List.mem_cons_self
      rcases List.mem_cons.mp hx with e | hx
      · exact e
      · rcases List.mem_cons.mp hy with e | hy
        · exact e.symm
        · have := h1.1 y hy
          have := h2.1 x hx
          omega
    subst e
    rw [sorted_unique ((List.perm_cons x).mp p) h1.2 h2.2]
theorem eq_isort {l m : LI} (p : m.Perm l) (h : m.Pairwise (· ≤ ·)) : m = isort l :=
  sorted_unique (p.trans (isort_perm l).symm) h (isort_sorted l)
theorem inV_ints (h : Int) (bs : LI) : inV (.int h) (bs.map V.int) = decide (h ∈ bs) := by
  induction bs with
  | nil => simp [inV]
  | cons b bs ih =>
    show (eqV (.int b) (.int h) || inV (.int h) (bs.map V.int)) = _
    rw [ih]
    have : eqV (.int b) (.int h) = decide (h = b) := by
      simp [eqV]
      by_cases e : h = b
      · simp [e]
      · simp [e, Ne.symm e]
    rw [this]
    by_cases e : h = b <;> simp [e]
theorem flat_ints (bs : LI) : (bs.map V.int).all flatV = true := by
  induction bs with
  | nil => rfl
  | cons b bs ih => rw [List.map_cons, List.all_cons, ih]; rfl
theorem cut_take {xs : List V} {i : Nat} (h : i ≤ xs.length) : cutV xs none (some (i : Int)) = xs.take i := by
  have e1 : HT.sIx xs.length 0 none = 0 := rfl
  have e2 : HT.sIx xs.length xs.length (some (i : Int)) = i := by
    rw [HT.sIx_nat]
    omega
  unfold cutV
  rw [e1, e2]
  simp
theorem cut_drop {xs : List V} {i : Nat} (h : i ≤ xs.length) : cutV xs (some (i : Int)) none = xs.drop i := by
  have e1 : HT.sIx xs.length 0 (some (i : Int)) = i := by
    rw [HT.sIx_nat]
    omega
  have e2 : HT.sIx xs.length xs.length none = xs.length := rfl
  unfold cutV
  rw [e1, e2]
  exact List.take_of_length_le (by rw [List.length_drop]; exact Nat.le_refl _)
theorem put_len (bs : LI) (n : Int) : ∀ i, ((List.range i).flatMap (putOne bs n)).length ≤ i
  | 0 => by simp
  | i + 1 => by
    rw [range_flat, List.length_append]
    have h1 : (putOne bs n i).length ≤ 1 := by
      unfold putOne
      simp only
      split <;> simp
    have := put_len bs n i
    omega
end K53
/-! B5: dicts of ints by lots; the lots of a sum. -/
namespace K53
open PySem PySem.Spec PyProof.Rows L2
section
variable {D : Ends} {σ : L2.St} {H : Hp} {Q : VK} {te ta tb tc : TE}
theorem ap_dispT : tDispT ta tb σ H Q = ∀ p, H p = none → ta σ (upd H p (.dT [])) fun x H1 => tb σ H1 fun y H2 =>
  ∃ (q : Addr) (k : List Key), x = .ref q ∧ H2 q = some (.tup (k.map kV)) ∧ H2 p = some (.dT []) ∧ Q (.ref p) (upd H2 p (.dT [(k, y)])) := rfl
theorem ap_dnewT : tDNewT σ H Q = ∀ p, H p = none → Q (.ref p) (upd H p (.dT [])) := rfl
theorem ap_dget : tDGet ta tb σ H Q = ta σ H fun x H1 => tb σ H1 fun y H2 => ∃ a v, x = .ref a ∧ DGet H2 a y (some v) ∧ Q v H2 := rfl
theorem ap_dget2 : tDGet2 ta tb tc σ H Q = ta σ H fun x H1 => ∃ a, x = .ref a ∧ IsD H1 a ∧ tb σ H1 fun y H2 => tc σ H2 fun z H3 => ∃ o, DGet H3 a y o ∧ Q (o.getD z) H3 := rfl
theorem ap_dput : sDPut ta tb tc D σ H = tc σ H fun v H1 => ta σ H1 fun x H2 => tb σ H2 fun y H3 => ∃ a H4, x = .ref a ∧ DPut H3 a y v H4 ∧ D.nx σ H4 := rfl
theorem w_itemsT {R : It → Hp → Prop} : iItemsT te σ H R = te σ H fun x H1 => ∃ d o kvs, x = .ref d ∧ H1 d = some (.frz o (.dT kvs)) ∧ R (ItiT d o kvs) H1 := rfl
theorem w_keys {R : It → Hp → Prop} : iKeys te σ H R = te σ H fun x H1 => ∃ d o, x = .ref d ∧ ((∃ kvs, H1 d = some (.frz o (.dK kvs)) ∧ R (Itk d o kvs) H1) ∨ ∃ kvs, H1 d = some (.frz o (.dT kvs)) ∧ R (Itkt d o kvs) H1) := rfl
end
/-- the dict at D holds kvs, all of H1 stands -/
structure Mk2 (H1 : Hp) (D : Addr) (kvs : List (LI × Int)) (H : Hp) : Prop where
  same : Same H1 H
  dict : H D = some (.dT (enc kvs))
theorem Mk2.stay {H1 H H2 : Hp} {D : Addr} {kvs : List (LI × Int)} (m : Mk2 H1 D kvs H) (s : Same H H2) : Mk2 H1 D kvs H2 := ⟨Same.trans m.same s, s _ _ m.dict⟩
theorem key_inj {a b : LI} (h : key a = key b) : a = b := by
  unfold key at h
  exact List.map_inj_right (fun _ _ => Sum.inl.inj) |>.mp h
theorem val_enc (x : LI) : ∀ kvs : List (LI × Int), (valV (enc kvs) (key x)).getD (.int 0) = .int (look 0 kvs x)
  | [] => rfl
  | (k, v) :: r => by
    show (valV ((key k, V.int v) :: enc r) (key x)).getD (.int 0) = .int (if k = x then v else look 0 r x)
    by_cases e : k = x
    · rw [valV_pos (by rw [e]), if_pos e]; rfl
    · rw [valV_neg (fun z => e (key_inj z)), if_neg e]; exact val_enc x r
theorem val_enc_mem {x : LI} {n : Int} : ∀ {kvs : List (LI × Int)}, (∃ p ∈ kvs, p.1 = x) → valV (enc kvs) (key x) = some (.int (look 0 kvs x))
  | [], h => by obtain ⟨p, h, _⟩ := h; cases h
  | (k, v) :: r, h => by
    show valV ((key k, V.int v) :: enc r) (key x) = some (.int (if k = x then v else look 0 r x))
    by_cases e : k = x
    · rw [valV_pos (by rw [e]), if_pos e]
    · rw [valV_neg (fun z => e (key_inj z)), if_neg e]
      obtain ⟨p, hp, ep⟩ := h
      rcases List.mem_cons.mp hp with rfl | hp
      · exact absurd ep e
      · exact val_enc_mem (n := n) ⟨p, hp, ep⟩
theorem any_enc (x : LI) : ∀ kvs : List (LI × Int), ((enc kvs).any fun kv => decide (kv.1 = key x)) = kvs.any fun kv => decide (kv.1 = x)
  | [] => rfl
  | (k, v) :: r => by
    show (decide (key k = key x) || (enc r).any fun kv => decide (kv.1 = key x)) = (decide (k = x) || r.any fun kv => decide (kv.1 = x))
    rw [any_enc x r]
    by_cases e : k = x
    · simp [e]
    · simp [e, show ¬ key k = key x from fun z => e (key_inj z)]
theorem look_none {x : LI} : ∀ {kvs : List (LI × Int)}, (kvs.any fun kv => decide (kv.1 = x)) = false → look 0 kvs x = 0
  | [], _ => rfl
  | (k, v) :: r, h => by
    rw [List.any_cons, Bool.or_eq_false_iff] at h
    show (if k = x then v else look 0 r x) = 0
    rw [if_neg (of_decide_eq_false h.1)]
    exact look_none h.2
/-- no key twice -/
def Uniq (kvs : List (LI × Int)) : Prop := (kvs.map (·.1)).Nodup
theorem look_uniq {x : LI} {v : Int} : ∀ {kvs : List (LI × Int)}, Uniq kvs → (x, v) ∈ kvs → look 0 kvs x = v
  | (k, u) :: r, hu, h => by
    have hn := List.nodup_cons.mp hu
    show (if k = x then u else look 0 r x) = v
    rcases List.mem_cons.mp h with e | h
    · cases e; rw [if_pos rfl]
    · rw [if_neg (fun z => hn.1 (by rw [z]; exact List.mem_map.mpr ⟨_, h, rfl⟩))]
      exact look_uniq hn.2 h
theorem put_addTo {kvs : List (LI × Int)} (hu : Uniq kvs) (x : LI) (n : Int) : putK (enc kvs) (key x) (.int (look 0 kvs x + n)) = enc (addTo kvs x n) := by
  unfold putK addTo
  rw [any_enc]
  by_cases h : (kvs.any fun kv => decide (kv.1 = x)) = true
  · rw [if_pos h, if_pos h]
    unfold enc
    rw [List.map_map, List.map_map]
    refine List.map_congr_left fun p hp => ?_
    obtain ⟨k, v⟩ := p
    show (if key k = key x then (key k, _) else (key k, V.int v)) = _
    by_cases e : k = x
    · rw [if_pos (by rw [e])]
      show _ = (fun p : LI × Int => (key p.1, V.int p.2)) (if k = x then (k, v + n) else (k, v))
      rw [if_pos e, ← e, look_uniq hu hp]
    · rw [if_neg (fun z => e (key_inj z))]
      show _ = (fun p : LI × Int => (key p.1, V.int p.2)) (if k = x then (k, v + n) else (k, v))
      rw [if_neg e]
  · rw [if_neg h, if_neg h, look_none (Bool.eq_false_iff.mpr h), Int.zero_add]
    unfold enc
    rw [List.map_append]
    rfl
theorem addTo_keys (x : LI) (n : Int) (kvs : List (LI × Int)) : (addTo kvs x n).map (·.1) = if (kvs.any fun kv => decide (kv.1 = x)) = true then kvs.map (·.1) else kvs.map (·.1) ++ [x] := by
  unfold addTo
  split
  · rw [List.map_map]
    refine List.map_congr_left fun p _ => ?_
    show (if p.1 = x then (p.1, p.2 + n) else p).1 = p.1
    split <;> rfl
  · rw [List.map_append]
    rfl
theorem addTo_uniq {kvs : List (LI × Int)} (hu : Uniq kvs) (x : LI) (n : Int) : Uniq (addTo kvs x n) := by
  unfold Uniq
  rw [addTo_keys]
  split
  · exact hu
  · rename_i h
    refine List.nodup_append.mpr ⟨hu, by simp, fun a ha b hb => ?_⟩
    obtain rfl : b = x := by simpa using hb
    rintro rfl
    obtain ⟨p, hp, e⟩ := List.mem_map.mp ha
    exact h (List.any_eq_true.mpr ⟨p, hp, decide_eq_true e⟩)
theorem addTo_len (x : LI) (n : Int) (kvs : List (LI × Int)) : (addTo kvs x n).length ≤ kvs.length + 1 := by
  unfold addTo
  split <;> simp
theorem enc_len (kvs : List (LI × Int)) : (enc kvs).length = kvs.length := List.length_map _
theorem put_sign (l : LI) (n : Nat) : ∀ p ∈ putM l n, p.2.natAbs < 2 ^ 8 := by
  intro p hp
  unfold putM at hp
  obtain ⟨i, _, h⟩ := List.mem_flatMap.mp hp
  unfold putOne at h
  simp only at h
  split at h
  · cases h
  · obtain rfl := List.mem_singleton.mp h
    show (1 - 2 * _ : Int).natAbs < _
    omega
/-! ### all lots of a sum -/
theorem tab_at : ∀ n i, i ≤ n → (lotTab n)[i]? = some (lotsM i)
  | 0, i, h => by
    obtain rfl : i = 0 := by omega
    rfl
  | n + 1, i, h => by
    show (lotTab n ++ [lotStep (lotTab n) (n + 1)])[i]? = _
    have hl : ∀ k, (lotTab k).length = k + 1 := fun k => by
      induction k with
      | zero => rfl
      | succ k ih => show (lotTab k ++ [_]).length = _; simp [ih]
    by_cases e : i ≤ n
    · rw [List.getElem?_append_left (by rw [hl]; omega)]
      exact tab_at n i e
    · obtain rfl : i = n + 1 := by omega
      unfold lotsM
      rw [List.getD_eq_getElem?_getD]
      show _ = some (((lotTab n ++ [lotStep (lotTab n) (n + 1)])[n + 1]?).getD [])
      rw [List.getElem?_append_right (by rw [hl]; exact Nat.le_refl _), hl]
      simp
theorem lots_complete : ∀ (t : Nat) (l : LI), Lot t l → l ∈ lotsM t := by
  intro t
  induction t using Nat.strongRecOn with
  | ind t ih =>
    intro l h
    cases l with
    | nil =>
      have := h.sum
      simp at this
      obtain rfl : t = 0 := by omega
      exact List.mem_singleton.mpr rfl
    | cons m r =>
      have hm := h.pos m List.mem_cons_self
      have hr : ∀ x ∈ r, 1 ≤ x := fun x hx => h.pos x (List.mem_cons_of_mem _ hx)
      have hd := List.pairwise_cons.mp h.desc
      have hs := h.sum
      rw [List.sum_cons] at hs
      have h0 : 0 ≤ r.sum := by have := len_le_sum hr; omega
      obtain ⟨n, rfl⟩ : ∃ n, t = n + 1 := ⟨t - 1, by omega⟩
      have e : lotsM (n + 1) = lotStep (lotTab n) (n + 1) := by
        have h1 := tab_at (n + 1) (n + 1) (Nat.le_refl _)
        have hl : (lotTab n).length = n + 1 := by
          have h2 := tab_at n n (Nat.le_refl _)
          have h3 : ∀ k, (lotTab k).length = k + 1 := fun k => by
            induction k with
            | zero => rfl
            | succ k ih => show (lotTab k ++ [_]).length = _; simp [ih]
          exact h3 n
        rw [show lotTab (n + 1) = lotTab n ++ [lotStep (lotTab n) (n + 1)] from rfl, List.getElem?_append_right (by omega), hl] at h1
        simp at h1
        exact h1.symm
      rw [e]
      unfold lotStep
      refine List.mem_flatMap.mpr ⟨(m - 1).toNat, List.mem_range.mpr (by omega), List.mem_map.mpr ⟨r, List.mem_filter.mpr ⟨?_, ?_⟩, ?_⟩⟩
      · rw [List.getD_eq_getElem?_getD, tab_at n _ (by omega)]
        refine ih _ (by omega) r ⟨by omega, hr, hd.2⟩
      · cases r with
        | nil => simp
        | cons x r =>
          have := hd.1 x List.mem_cons_self
          simp
          omega
      · congr 1
        omega
theorem lot_take {t : Nat} {l : LI} (h : Lot t l) (i : Nat) : ∃ s, s ≤ t ∧ Lot s (l.take i) := by
  have hp : ∀ m ∈ l.take i, 1 ≤ m := fun m hm => h.pos m (List.mem_of_mem_take hm)
  have hq : ∀ m ∈ l.drop i, 1 ≤ m := fun m hm => h.pos m (List.mem_of_mem_drop hm)
  have h1 := len_le_sum hp
  have h2 := len_le_sum hq
  have h3 : l.sum = (l.take i).sum + (l.drop i).sum := by
    rw [← List.sum_append, List.take_append_drop]
  rw [h.sum] at h3
  refine ⟨(l.take i).sum.toNat, by omega, by omega, hp, h.desc.sublist (List.take_sublist i l)⟩
theorem Tiny.take {l : LI} (h : Tiny l) (i : Nat) : Tiny (l.take i) := by
  obtain ⟨t, ht, q⟩ := h
  obtain ⟨s, hs, q2⟩ := lot_take q i
  exact ⟨s, by omega, q2⟩
theorem Tiny.mem_lots {l : LI} (h : Tiny l) : ∃ t, t ≤ 7 ∧ l ∈ lotsM t := by
  obtain ⟨t, ht, q⟩ := h
  exact ⟨t, ht, lots_complete t l q⟩
def reachOk (d : List (LI × Int)) : Bool := decide (d.length ≤ 20) && d.all fun p => decide (p.1.length ≤ 10) && decide (p.2.natAbs < 1000)
theorem reach_all : ∀ t, t ≤ 7 → ∀ l ∈ lotsM t, reachOk (reachM l) = true := by decide +kernel
theorem Tiny.reach {l : LI} (h : Tiny l) : (reachM l).length ≤ 20 ∧ ∀ p ∈ reachM l, p.1.length ≤ 10 ∧ p.2.natAbs < 1000 := by
  obtain ⟨t, ht, hm⟩ := h.mem_lots
  have := reach_all t ht l hm
  unfold reachOk at this
  rw [Bool.and_eq_true] at this
  refine ⟨of_decide_eq_true this.1, fun p hp => ?_⟩
  have := List.all_eq_true.mp this.2 p hp
  rw [Bool.and_eq_true] at this
  exact ⟨of_decide_eq_true this.1, of_decide_eq_true this.2⟩
theorem reach_push (l : LI) (m : Int) : reachM (l ++ [m]) = reachStep (reachM l) m.toNat := by
  unfold reachM
  rw [List.foldl_append]
  rfl
/-- a dict comprehension over a walked thing J, D the new dict -/
def tDcI (J : It) (g : TG) (tk tv : TE) (vs : List Nat) (D : Addr) (σ : L2.St) (H1 : Hp) (Qd : Hp → Prop) : Prop := ∃ W : Nat → Nat → Hp → Prop, (∃ m, W 0 m (upd H1 D (.dT []))) ∧ ∀ i m H, W i m H →
  (J.stop i H ∧ Qd H) ∨ (J.go i H ∧ ∃ Nx : Hp → Prop, (∀ H', Nx H' → ∃ m', m' < m ∧ W (i + 1) m' H') ∧ ∀ x H', J.yld i H x H' → g x (wipe σ vs) H' fun σ2 H2 => wipe σ2 vs = wipe σ vs ∧
    tk σ2 H2 fun y H3 => tv σ2 H3 fun z H4 => ∃ (kvs : List (List Key × V)) (k : List Key) (b : Addr), y = .ref b ∧ H4 b = some (.tup (k.map kV)) ∧ H4 D = some (.dT kvs) ∧ kvs.length < sizeLine ∧ Nx (upd H4 D (.dT (putK kvs k z))))
theorem ap_dcT {wi : L2.TI} {g : TG} {tk tv : TE} {is : List Nat} {σ : L2.St} {H : Hp} {Q : VK} : tDcT wi g tk tv is σ H Q = wi σ H fun J H1 => ∀ D, H1 D = none → tDcI J g tk tv is D σ H1 fun H => Q (.ref D) H := rfl
theorem lots_nodup : ∀ t, t ≤ 7 → (lotsM t).Nodup := by decide +kernel
theorem lots_sound0 : ∀ t, t ≤ 7 → ∀ l ∈ lotsM t, l.sum = (t : Int) ∧ (∀ m ∈ l, (1 : Int) ≤ m) ∧ l.Pairwise (· ≥ ·) := by decide +kernel
theorem lots_sound {t : Nat} (h : t ≤ 7) {l : LI} (hl : l ∈ lotsM t) : Lot t l := by
  obtain ⟨h1, h2, h3⟩ := lots_sound0 t h l hl
  exact ⟨h1, h2, h3⟩
theorem lots_len : ∀ t, t ≤ 7 → (lotsM t).length ≤ 20 := by decide +kernel
theorem look_bd {n : Nat} (hn : 0 < n) {x : LI} : ∀ {kvs : List (LI × Int)}, (∀ p ∈ kvs, p.2.natAbs < n) → (look 0 kvs x).natAbs < n
  | [], _ => hn
  | (k, v) :: r, h => by
    show (if k = x then v else look 0 r x).natAbs < n
    split
    · exact h _ List.mem_cons_self
    · exact look_bd hn fun p hp => h p (List.mem_cons_of_mem _ hp)
theorem col_keys (l : LI) : (colM l).map (·.1) = lotsM l.sum.toNat := by
  unfold colM
  simp only
  rw [List.map_map]
  exact List.map_id _
theorem col_uniq {l : LI} (h : Tiny l) : Uniq (colM l) := by
  unfold Uniq
  rw [col_keys]
  exact lots_nodup _ (by have := h.sum; omega)
theorem col_bd {l : LI} (h : Tiny l) : ∀ p ∈ colM l, p.2.natAbs < 1000 := fun p hp => by
  unfold colM at hp
  obtain ⟨s, _, rfl⟩ := List.mem_map.mp hp
  exact look_bd (by decide) fun q hq => (h.reach.2 q hq).2
theorem put_new {kvs : List (LI × Int)} {x : LI} {n : Int} (h : x ∉ kvs.map (·.1)) : putK (enc kvs) (key x) (.int n) = enc (kvs ++ [(x, n)]) := by
  unfold putK
  rw [any_enc, if_neg]
  · unfold enc
    rw [List.map_append]
    rfl
  · intro z
    obtain ⟨p, hp, e⟩ := List.any_eq_true.mp z
    exact h (List.mem_map.mpr ⟨p, hp, of_decide_eq_true e⟩)
/-- a pair of a list of ints, not at D, and an int -/
def PCnX (D : Addr) (H : Hp) (v : V) (d : LI × Int) : Prop := ∃ t a, v = .ref t ∧ a ≠ D ∧ H t = some (.tup [.ref a, .int d.2]) ∧ H a = some (.lst (d.1.map V.int))
theorem keeps_PCnX {D : Addr} : Keeps D (PCnX D) := fun H H' v d L h hD s => by
  obtain ⟨t, a, e, n, h1, h2⟩ := h
  exact ⟨t, a, e, n, s _ _ (ne_of h1 hD (by intro z; cases z)) h1, s _ _ n h2⟩
end K53
/-! B6: rows of factors, shares. -/
namespace K53
open PySem PySem.Spec PyProof.Rows L2
section
variable {K : PySem.W.Frag} {w : World} {vs : List V} {H : Hp} {Q : VK} {x : V}
theorem r_setI : rSetI K w vs H Q = ∃ (a : Addr) (ns : List Int), vs = [V.ref a] ∧ SqT K H a (ns.map V.int) ∧ ns.length ≤ 60 ∧
  ∀ (p : Addr) (n : Nat), H p = none → n ≤ ns.length → Q (.ref p) (upd H p (SetO w p (fun j => decide (j ∈ ns)) n)) := rfl
theorem r_sSet : rSortedSet w vs H Q = ∃ (a : Addr) (S : Int → Bool) (n : Nat), vs = [V.ref a] ∧ H a = some (SetO w a S n) ∧ n < 64 ∧
  ∀ (ns : List Int) (p : Addr), ns.Pairwise (· < ·) → (∀ k : Int, k ∈ ns ↔ S k = true) → ns.length = n → H p = none → Q (.ref p) (upd H p (.lst (ns.map V.int))) := rfl
theorem r_cntT : rCntT K x vs H Q = ∃ (p : Addr) (ns : List Int) (k : Int), x = .ref p ∧ vs = [.int k] ∧ SqT K H p (ns.map V.int) ∧ Q (.int (ns.count k : Nat)) H := rfl
theorem r_setL {x y z : V} {Qs : Hp → Prop} : rSetL x y z H Qs = ∃ p xs k j, x = .ref p ∧ y = .int k ∧ H p = some (.lst xs) ∧ ixN xs.length k = some j ∧ Qs (upd H p (.lst (xs.set j z))) := rfl
theorem ap_gsub {to ti : TE} {t : TSet} {σ : L2.St} {Qs : L2.St → Hp → Prop} : gSub to ti t x σ H Qs = to σ H fun o H1 => ti σ H1 fun i H2 => t o i x H2 fun H3 => Qs σ H3 := rfl
end
section
variable {K : PySem.W.Frag} {σ : L2.St} {H : Hp} {Q : VK} {te tb : TE} {tA : TA} {x : V} {lo hi : Option Int}
theorem ap_tupB : tTupB tA σ H Q = tA σ H fun xs H1 => xs.length ≤ sizeLine ∧ NewB Q H1 xs := rfl
theorem ap_cnt : tCnt te tb σ H Q = te σ H fun x H1 => ∃ (p : Addr) (ns : List Int), x = .ref p ∧ Bare H1 p (ns.map V.int) ∧ tb σ H1 fun y H2 => ∃ k : Int, y = .int k ∧ Bare H2 p (ns.map V.int) ∧ Q (.int (ns.count k : Nat)) H2 := rfl
theorem r_slB : rSlB K x lo hi H Q = ∃ (b : Addr) (xs : List V), x = .ref b ∧ SqT K H b xs ∧ ¬ (HT.sIx xs.length 0 lo = 0 ∧ HT.sIx xs.length xs.length hi = xs.length) ∧ NewB Q H (cutV xs lo hi) := rfl
end
theorem word_t : wordS true = Str.ofString "all" := rfl
theorem word_f : wordS false = Str.ofString "rising" := rfl
theorem word_n : ¬ wordS false = Str.ofString "all" := by decide
theorem cx_w {CX : CXT} {P : Program} {w : World} {K : PySem.W.Frag} {mg : Str → Option Value} {base : Heap} {N : List Str} {qual : Str} {scope : Scope} {f : Addr} {cd : Value} {A : Around} {outer : List Env} {s : Shared} {H : Hp} {E : XK} : (cxOf CX P w K mg base N qual scope f cd A outer s H E).w = w := rfl
theorem cx_P {CX : CXT} {P : Program} {w : World} {K : PySem.W.Frag} {mg : Str → Option Value} {base : Heap} {N : List Str} {qual : Str} {scope : Scope} {f : Addr} {cd : Value} {A : Around} {outer : List Env} {s : Shared} {H : Hp} {E : XK} : (cxOf CX P w K mg base N qual scope f cd A outer s H E).prog = P := rfl
theorem smallM {n : Nat} (h : n ≤ 1000000) : n < sizeLine := by rw [sizeLine_eq]; omega
theorem rep_int (m : Int) : ∀ k : Nat, (List.replicate k [V.int m]).flatten = (List.replicate k m).map V.int
  | 0 => rfl
  | k + 1 => by rw [List.replicate_succ, List.flatten_cons, rep_int m k]; rfl
theorem strict_unique : ∀ {l m : LI}, l.Pairwise (· < ·) → m.Pairwise (· < ·) → (∀ k, k ∈ l ↔ k ∈ m) → l = m
  | [], [], _, _, _ => rfl
  | [], y :: m, _, _, h => by have := (h y).mpr List.mem_cons_self; cases this
  | x :: l, [], _, _, h => by have := (h x).mp List.mem_cons_self; cases this
  | x :: l, y :: m, hl, hm, h => by
    have h1 := List.pairwise_cons.mp hl
    have h2 := List.pairwise_cons.mp hm
    have e : x = y := by
      rcases List.mem_cons.mp ((h x).mp List.mem_cons_self) with e | hx
      · exact e
      · rcases List.mem_cons.mp ((h y).mpr List.mem_cons_self) with e | hy
        · exact e.symm
        · have := h1.1 y hy
          have := h2.1 x hx
          omega
    subst e
    rw [strict_unique h1.2 h2.2 fun k => ?_]
    constructor
    · intro hk
      rcases List.mem_cons.mp ((h k).mp (List.mem_cons_of_mem _ hk)) with rfl | hk2
      · have := h1.1 _ hk; omega
      · exact hk2
    · intro hk
      rcases List.mem_cons.mp ((h k).mpr (List.mem_cons_of_mem _ hk)) with rfl | hk2
      · have := h2.1 _ hk; omega
      · exact hk2
theorem uniq_mem : ∀ (l : LI) (k : Int), k ∈ uniqI l ↔ k ∈ l
  | [], k => Iff.rfl
  | x :: l, k => by
    unfold uniqI
    split
    · rename_i h
      rw [uniq_mem l k, List.mem_cons]
      exact ⟨.inr, fun z => z.elim (fun e => e ▸ h) id⟩
    · rw [List.mem_cons, List.mem_cons, uniq_mem l k]
theorem uniq_nodup : ∀ l : LI, (uniqI l).Nodup
  | [] => List.nodup_nil
  | x :: l => by
    unfold uniqI
    split
    · exact uniq_nodup l
    · rename_i h
      exact List.nodup_cons.mpr ⟨fun z => h ((uniq_mem l x).mp z), uniq_nodup l⟩
theorem pw_strict : ∀ {l : LI}, l.Pairwise (· ≤ ·) → l.Nodup → l.Pairwise (· < ·)
  | [], _, _ => List.Pairwise.nil
  | x :: l, h, n => by
    have h1 := List.pairwise_cons.mp h
    have n1 := List.nodup_cons.mp n
    refine List.pairwise_cons.mpr ⟨fun y hy => ?_, pw_strict h1.2 n1.2⟩
    have := h1.1 y hy
    have : x ≠ y := fun z => n1.1 (z ▸ hy)
    omega
theorem kinds_eq {ns l : LI} (h : ns.Pairwise (· < ·)) (hm : ∀ k, k ∈ ns ↔ k ∈ l) : ns.reverse = kindsM l := by
  unfold kindsM
  rw [strict_unique (l := ns) (m := isort (uniqI l)) h (pw_strict (isort_sorted _) ((isort_perm _).nodup_iff.mpr (uniq_nodup l))) fun k => ?_]
  rw [hm, (isort_perm _).mem_iff, uniq_mem]
theorem comb_ok : ∀ n : Nat, n ≤ 10 → ∀ k : Nat, k ≤ n → PySem.W.mcComb (n : Int) (k : Int) = (choose n k : Int) := by decide +kernel
theorem choose_lt : ∀ n : Nat, n ≤ 10 → ∀ k : Nat, k ≤ n → choose n k < 2 ^ 10 := by decide +kernel
def shOk (l : LI) : Bool := (List.range ((kindsM l).length + 1)).all fun i => let found := ((kindsM l).take i).foldl (sharesStep l) [([], [], 1)]; decide (found.length ≤ 200) && found.all fun f => decide (f.2.2.natAbs < 1000) && decide (f.1.length ≤ 10) && decide (f.2.1.length ≤ 10)
theorem sh_all : ∀ t, t ≤ 7 → ∀ l ∈ lotsM t, shOk l = true := by decide +kernel
theorem Tiny.shares {l : LI} (h : Tiny l) {i : Nat} (hi : i ≤ (kindsM l).length) : (((kindsM l).take i).foldl (sharesStep l) [([], [], 1)]).length ≤ 200 ∧
    ∀ f ∈ ((kindsM l).take i).foldl (sharesStep l) [([], [], 1)], f.2.2.natAbs < 1000 ∧ f.1.length ≤ 10 ∧ f.2.1.length ≤ 10 := by
  obtain ⟨t, ht, hm⟩ := h.mem_lots
  have h1 := List.all_eq_true.mp (sh_all t ht l hm) i (List.mem_range.mpr (by omega))
  simp only [Bool.and_eq_true] at h1
  refine ⟨of_decide_eq_true h1.1, fun f hf => ?_⟩
  have h2 := List.all_eq_true.mp h1.2 f hf
  simp only [Bool.and_eq_true] at h2
  exact ⟨of_decide_eq_true h2.1.1, of_decide_eq_true h2.1.2, of_decide_eq_true h2.2⟩
theorem Tiny.tail {m : Int} {l : LI} (h : Tiny (m :: l)) : Tiny l := by
  obtain ⟨t, ht, q⟩ := h
  have hp : ∀ x ∈ l, 1 ≤ x := fun x hx => q.pos x (List.mem_cons_of_mem _ hx)
  have h1 := len_le_sum hp
  have h2 := q.pos m List.mem_cons_self
  have h3 := q.sum
  rw [List.sum_cons] at h3
  exact ⟨l.sum.toNat, by omega, by omega, hp, (List.pairwise_cons.mp q.desc).2⟩
/-- all entries below a power of 2 -/
def Bd (f : LI) (n : Nat) : Prop := ∀ x ∈ f, x.natAbs < 2 ^ n
theorem Bd.mono {f : LI} {n m : Nat} (h : Bd f n) (hm : n ≤ m) : Bd f m := fun x hx => Nat.lt_of_lt_of_le (h x hx) (Nat.pow_le_pow_right (by decide) hm)
theorem Bd.getD {f : LI} {n : Nat} (h : Bd f n) (i : Nat) : (f.getD i 0).natAbs < 2 ^ n := by
  rw [List.getD_eq_getElem?_getD]
  cases e : f[i]? with
  | none => exact Nat.two_pow_pos n
  | some x => exact h x (List.mem_of_getElem? e)
theorem row_bd {f : LI} {n : Nat} (h : Bd f n) {c : Int} (hc : c.natAbs < 100) (j : Nat) : Bd (rowStep f c j) (n + 7) := fun x hx => by
  unfold rowStep at hx
  rcases List.mem_or_eq_of_mem_set hx with hx | rfl
  · exact Nat.lt_of_lt_of_le (h x hx) (Nat.pow_le_pow_right (by decide) (by omega))
  · have h1 := h.getD (j + 1)
    have h2 := h.getD j
    have h3 : (f.getD (j + 1) 0 + c * f.getD j 0).natAbs ≤ (f.getD (j + 1) 0).natAbs + c.natAbs * (f.getD j 0).natAbs := by
      have := Int.natAbs_add_le (f.getD (j + 1) 0) (c * f.getD j 0)
      rwa [Int.natAbs_mul] at this
    have h4 : c.natAbs * (f.getD j 0).natAbs ≤ 100 * 2 ^ n := Nat.mul_le_mul (by omega) (by omega)
    rw [Nat.pow_add]
    omega
def passM (f : LI) (c : Int) (n : Nat) : LI := (List.range n).foldl (fun f j => rowStep f c j) f
theorem pass_succ (f : LI) (c : Int) (n : Nat) : passM f c (n + 1) = rowStep (passM f c n) c n := by
  unfold passM
  rw [List.range_succ, List.foldl_append]
  rfl
theorem pass_bd {f : LI} {b : Nat} (h : Bd f b) {c : Int} (hc : c.natAbs < 100) : ∀ n, Bd (passM f c n) (b + 7 * n)
  | 0 => h
  | n + 1 => by rw [pass_succ]; exact row_bd (pass_bd h hc n) hc n
theorem pass_len (f : LI) (c : Int) : ∀ n, (passM f c n).length = f.length
  | 0 => rfl
  | n + 1 => by rw [pass_succ]; unfold rowStep; rw [List.length_set]; exact pass_len f c n
def rowsM (cs : LI) (k : Nat) : LI := cs.foldl (fun f c => passM f c k) (1 :: List.replicate k 0)
theorem rows_push (cs : LI) (c : Int) (k : Nat) : rowsM (cs ++ [c]) k = passM (rowsM cs k) c k := by
  unfold rowsM
  rw [List.foldl_append]
  rfl
end K53
/-! B7: the class Links: its slots, its methods. -/
namespace K53
open PySem PySem.Spec PyProof.Rows L2
/-- the class with its slots -/
structure LkT (K : PySem.W.Frag) (C : Addr) : Prop where
  cls : SlX.SCls K C
  linked : ∃ p, SlX.Slot1 K C "own_linked" p 0
  many : ∃ p, SlX.Slot1 K C "own_many" p 1
  numbered : ∃ p, SlX.Slot1 K C "own_numbered" p 2
  summed : ∃ p, SlX.Slot1 K C "own_summed" p 3
  word : ∃ p, SlX.Slot1 K C "own_word" p 4
/-- the method m of the class at C is the def st -/
structure MetAt (K : PySem.W.Frag) (C : Addr) (m qual : Str) (st : Stmt) : Prop where
  ex : ∃ f fd, Fun K m qual st f fd ∧ Meth K C m f
/-- a method that may be called -/
structure CalM (P : Program) (w : World) (K : PySem.W.Frag) (mg : Str → Option Value) (base : Heap) (C : Addr) (k : Nat) (m : Str) (sp : Sp) : Prop where
  ex : ∃ f, FnR P w K mg base CX0 k f sp ∧ Meth K C m f
section
variable {P : Program} {w : World} {K : PySem.W.Frag} {mg : Str → Option Value} {base : Heap} {C : Addr}
theorem met_of {m qual : Str} {st : Stmt} {N ps : List Str} {k : Nat} {sp : Sp} (D : MetAt K C m qual st)
    (b : ∀ (kV doc pm : Value) (an : Option Addr) (cdv ct : Value) (us : List Value), us.length = ps.length → bindArgs (PySem.W.fnOf m qual (defArgs st) (defBody st) (defScope st) .none kV doc pm an cdv ct) ⟨us, []⟩ = pure (ps.zip us))
    (S : FnScope N ps (defScope st)) (len : ∀ vs H Q E, sp vs H Q E → vs.length = ps.length)
    (body : ∀ (f : Addr) (cdv : Value) (A : Around) (outer : List Env) (s : Shared) (H : Hp) (vs : List V) (Q : VK) (E : XK), Room k (A.deeper (envOfC qual (defScope st) s.heap.objs.size f cdv)) → sp vs H Q E →
      ∃ t, PSs (cxOf CX0 P w K mg base N qual (defScope st) f cdv A outer s H E).nox (defBody st) t ∧ t { nx := fun _ H' => Q .non H', rt := Q } (start N vs) H) : CalM P w K mg base C (k + 1) m sp := by
  obtain ⟨f, fd, F, hm⟩ := D.ex
  have ok : FnOk P w K mg base CX0 (k + 1) f fd ps sp := F.ok S len fun cdv A outer s H vs Q E hr h => body f cdv A outer s H vs Q E hr h
  have r := FnOk.raw ok (F.binds b) .nil
  refine ⟨f, ?_, hm⟩
  have e0 : (fun (vs : List V) (H : Hp) (Q : VK) (E : XK) => sp (vs ++ []) H Q E) = sp := by
    funext vs H Q E
    rw [List.append_nil]
  rw [e0] at r
  exact r
end
section
variable {X : Cx} {k j : Nat} {m : Str} {sp : Sp} {o e : Expr} {es : List Expr} {ta : TE} {t : TA} {apos pos : Pos} {C : Addr}
/-- o.m(e, ..) -/
def tMt (C : Addr) (sp : Sp) (ta : TE) (t : TA) : TE := SlX.tMethSl C sp E0 ta t
theorem pe_m {pl : Sem Bool} (c : CalM X.prog X.w X.K X.mg X.base C k m sp) (hr : Room j X.A) (hk : k ≤ j) (L : LkT X.K C) (ho : PE X o ta) (ha : PA X (e :: es) t) (hst : starEach (e :: es) X.env = (false, eval e X.env) :: starEach es X.env := by rfl) (hpl : (backTo pos (starEach es X.env)).any (·.1) = false := by rfl)
    (ht : eval (.Call (.Attribute o m apos) (e :: es) [] pos) X.env = (do
        let ov ← eval o X.env
        standAt apos.atName
        let (f, first) ← holding [ov] (getMethod ov m pl)
        callWith pos f first (backTo pos (starEach (e :: es) X.env)) (backToKw pos (keywordEach [] X.env))) := by rfl) :
    PE X (.Call (.Attribute o m apos) (e :: es) [] pos) (tMt C sp ta t) := by
  obtain ⟨f, F, hm⟩ := c.ex
  exact SlX.pe_methSl ho L.cls hm F (hr.mono hk) pass0 ha hst hpl ht
end
def slotsOf (dl dn : Addr) (ds : V) (wd : Bool) (many : Nat) : List (Option V) := [some (.ref dl), some (.int (many : Nat)), some (.ref dn), some ds, some (.str (wordS wd))]
theorem Slt.same {H H' : Hp} {a C dx : Addr} {vs : List (Option V)} (s : Same H H') (h : SlX.Slt H a C dx vs) : SlX.Slt H' a C dx vs := by
  rcases h with ⟨h, e⟩ | ⟨h, e⟩
  · exact .inl ⟨s _ _ h, e⟩
  · exact .inr ⟨s _ _ h, s _ _ e⟩
def spBeside (C : Addr) : Sp := fun vs H Q _ => ∃ a dx dl dn ds wd many p q xs ys, ∃ ways : Int, vs = [.ref a, .ref p, .ref q, .int ways] ∧ SlX.Slt H a C dx (slotsOf dl dn ds wd many) ∧ many ≤ 8 ∧ H p = some (.lst (xs.map V.int)) ∧ H q = some (.lst (ys.map V.int)) ∧ xs.length = many + 1 ∧ ys.length = many + 1 ∧ ways.natAbs < 2 ^ 100 ∧ Bd xs 800000 ∧ Bd ys 100000 ∧
  ∀ r H', H r = none → Same H H' → H' r = some (.lst ((besideM wd many xs ys ways).map V.int)) → Q (.ref r) H'
def spPartings (C : Addr) : Sp := fun vs H Q _ => ∃ a v l u m, vs = [a, v, u] ∧ TB H v l ∧ TB H u m ∧ l ≠ [] ∧ Tiny l ∧ Tiny m ∧ ∀ p H' xs, Same H H' → H' p = some (.lst xs) → Paired (PPt H') xs (partM l m) → Q (.ref p) H'
def bsE (w : Bool) (many : Nat) (ways : Int) (other : LI) (place : Nat) (entry : Int) (found : LI) : LI :=
  if entry ≠ 0 then (List.range (many + 1 - place)).foldl (besideStep w ways place entry other) found else found
theorem beside_push (w : Bool) (many : Nat) (ways : Int) (other : LI) : ∀ (l : LI) (place : Nat) (e : Int) (found : LI), besideFrom w many ways other place (l ++ [e]) found = bsE w many ways other (place + l.length) e (besideFrom w many ways other place l found)
  | [], place, e, found => rfl
  | x :: l, place, e, found => by
    have := beside_push w many ways other l (place + 1) e (bsE w many ways other place x found)
    rw [show place + 1 + l.length = place + (x :: l).length by rw [List.length_cons]; omega] at this
    exact this
theorem step_len (w : Bool) (ways : Int) (place : Nat) (entry : Int) (other : LI) : ∀ (ns : List Nat) (f : LI), (ns.foldl (besideStep w ways place entry other) f).length = f.length
  | [], _ => rfl
  | n :: ns, f => by
    rw [List.foldl_cons, step_len w ways place entry other ns]
    unfold besideStep
    rw [List.length_set]
theorem bsE_len (w : Bool) (many : Nat) (ways : Int) (other : LI) (place : Nat) (entry : Int) (f : LI) : (bsE w many ways other place entry f).length = f.length := by
  unfold bsE
  split
  · exact step_len ..
  · rfl
theorem beside_len (w : Bool) (many : Nat) (ways : Int) (other : LI) : ∀ (l : LI) (place : Nat) (f : LI), (besideFrom w many ways other place l f).length = f.length
  | [], _, _ => rfl
  | x :: l, place, f => by
    show (besideFrom w many ways other (place + 1) l (bsE w many ways other place x f)).length = _
    rw [beside_len w many ways other l, bsE_len]
theorem r_gixL {K : PySem.W.Frag} {x y : V} {H : Hp} {Q : VK} : gIxL K x y H Q = ∃ (p : Addr) (xs : List V) (j : Nat) (v : V), x = .ref p ∧ y = .int (j : Nat) ∧ SqL K H p xs ∧ xs[j]? = some v ∧ Q v H := rfl
theorem ap_augS {to ti te : TE} {tg : V → V → Hp → VK → Prop} {tip : TIp} {ts : TSet} {D : Ends} {σ : L2.St} {H : Hp} : tAugS to ti te tg tip ts D σ H = to σ H fun o H1 => ti σ H1 fun i H2 => tg o i H2 fun x H3 => te σ H3 fun y H4 => tip x y H4 fun z H5 => ts o i z H5 fun H6 => D.nx σ H6 := rfl
theorem r_ipI {f : Int → Int → Int} {x y : V} {H : Hp} {Q : VK} : ipI f x y H Q = ∃ i j, x = .int i ∧ y = .int j ∧ Q (.int (f i j)) H := rfl
def fstOk (l : LI) : Bool := (sharesFirstM l).all fun f => decide (f.2.2.natAbs < 1000)
theorem fst_all : ∀ t, t ≤ 7 → ∀ l ∈ lotsM t, fstOk l = true ∧ (sharesFirstM l).length ≤ 200 ∧ 0 < (sharesFirstM l).length := by decide +kernel
theorem first_ok {l : LI} (h : Tiny l) (hne : l ≠ []) : ((sharesFirstM l).length ≤ 200 ∧ 0 < (sharesFirstM l).length) ∧ ∀ f ∈ sharesFirstM l, f.2.2.natAbs < 1000 := by
  obtain ⟨t, ht, hm⟩ := h.mem_lots
  have h1 := fst_all t ht l hm
  exact ⟨h1.2, fun f hf => of_decide_eq_true (List.all_eq_true.mp h1.1 f hf)⟩
end K53
/-! B8: the state of a Links object; its caches tell the mirrors. -/
namespace K53
open PySem PySem.Spec PyProof.Rows L2
/-- all but the two caches stand -/
def SameL (dl dn : Addr) (H H' : Hp) : Prop := ∀ b o, b ≠ dl → b ≠ dn → H b = some o → H' b = some o
theorem SameL.refl {dl dn : Addr} {H : Hp} : SameL dl dn H H := fun _ _ _ _ h => h
theorem SameL.trans {dl dn : Addr} {H H' H2 : Hp} (s : SameL dl dn H H') (t : SameL dl dn H' H2) : SameL dl dn H H2 := fun b o n m h => t _ _ n m (s _ _ n m h)
theorem Same.l {dl dn : Addr} {H H' : Hp} (s : Same H H') : SameL dl dn H H' := fun b o _ _ h => s b o h
/-- all pairs of lots of one sum -/
def domL : List PK2 := (List.range 8).flatMap fun s => (lotsM s).flatMap fun l => (lotsM s).map fun m => (l, m)
theorem dom_len : domL.length ≤ 500 := by decide +kernel
theorem mem_dom {l m : LI} (h : Tiny l) (h2 : Tiny m) (e : l.sum = m.sum) : (l, m) ∈ domL := by
  obtain ⟨t, ht, q⟩ := h
  obtain ⟨t2, ht2, q2⟩ := h2
  have : t = t2 := by have := q.sum; have := q2.sum; omega
  subst this
  exact List.mem_flatMap.mpr ⟨t, List.mem_range.mpr (by omega), List.mem_flatMap.mpr ⟨l, lots_complete t l q, List.mem_map.mpr ⟨m, lots_complete t m q2, rfl⟩⟩⟩
theorem nodup_le {α : Type} [DecidableEq α] : ∀ {l L : List α}, l.Nodup → (∀ x ∈ l, x ∈ L) → l.length ≤ L.length
  | [], _, _, _ => Nat.zero_le _
  | x :: l, L, n, h => by
    have n1 := List.nodup_cons.mp n
    have hx := h x List.mem_cons_self
    have := nodup_le (L := L.erase x) n1.2 fun y hy => (List.mem_erase_of_ne (show y ≠ x from fun z => n1.1 (z ▸ hy))).mpr (h y (List.mem_cons_of_mem _ hy))
    rw [List.length_erase_of_mem hx] at this
    have hp := List.length_pos_of_mem hx
    rw [List.length_cons]
    omega
/-- a cache: what it holds are lists of what F tells -/
structure Cache (P : Program) (w : World) (H : Hp) (d dl dn : Addr) (es : NEs) (F : LI → LI → LI) : Prop where
  dn_ : DN P w H d es
  vals : ∀ e ∈ es, ∃ lp, e.2.2 = .ref lp ∧ lp ≠ dl ∧ lp ≠ dn ∧ H lp = some (.lst ((F e.1.1 e.1.2).map V.int))
  uniq : (es.map (·.1)).Nodup
  dom : ∀ e ∈ es, e.1 ∈ domL
theorem Cache.len {P : Program} {w : World} {H : Hp} {d dl dn : Addr} {es : NEs} {F : LI → LI → LI} (c : Cache P w H d dl dn es F) : es.length < 1000 := by
  have := nodup_le c.uniq (L := domL) fun x hx => by
    obtain ⟨e, he, rfl⟩ := List.mem_map.mp hx
    exact c.dom e he
  rw [List.length_map] at this
  have := dom_len
  omega
structure LS (P : Program) (w : World) (C : Addr) (H : Hp) (a dx dl dn : Addr) (ds : V) (wd : Bool) (many : Nat) (en el : NEs) : Prop where
  sl : SlX.Slt H a C dx (slotsOf dl dn ds wd many)
  nd : dl ≠ dn
  na1 : a ≠ dl
  na2 : a ≠ dn
  nx1 : dx ≠ dl
  nx2 : dx ≠ dn
  cn : Cache P w H dn dl dn en (numberedM wd many)
  cl : Cache P w H dl dl dn el (fun l m => linkedM wd many l.length l m)
section
variable {P : Program} {w : World} {C : Addr} {H H' : Hp} {a dx dl dn d : Addr} {ds : V} {wd : Bool} {many : Nat} {en el es : NEs} {F : LI → LI → LI}
theorem ext_tp {b : Addr} {x : HO} (hx : IsTp x) (e : H b = some x) {es : NEs} {d : Addr} (hd : H d = some (DNo P w d es)) : b ≠ d := fun z => by
  rw [z, hd] at e
  cases e
  exact hx
theorem LS.kt (s : LS P w C H a dx dl dn ds wd many en el) (h : SameL dl dn H H') : KeepT H H' := fun b x hx e => h b x (ext_tp hx e s.cl.dn_.at_) (ext_tp hx e s.cn.dn_.at_) e
theorem Cache.keep (c : Cache P w H d dl dn es F) (k : KeepT H H') (s : SameL dl dn H H') (hd : H' d = H d) : Cache P w H' d dl dn es F where
  dn_ := c.dn_.keep hd k
  vals := fun e he => by
    obtain ⟨lp, e1, n1, n2, h⟩ := c.vals e he
    exact ⟨lp, e1, n1, n2, s _ _ n1 n2 h⟩
  uniq := c.uniq
  dom := c.dom
theorem slt_keep (na1 : a ≠ dl) (na2 : a ≠ dn) (nx1 : dx ≠ dl) (nx2 : dx ≠ dn) {vs : List (Option V)} (h : SlX.Slt H a C dx vs) (s : SameL dl dn H H') : SlX.Slt H' a C dx vs := by
  rcases h with ⟨h, e⟩ | ⟨h, e⟩
  · exact .inl ⟨s _ _ na1 na2 h, e⟩
  · exact .inr ⟨s _ _ na1 na2 h, s _ _ nx1 nx2 e⟩
theorem LS.keep (s : LS P w C H a dx dl dn ds wd many en el) (h : Same H H') : LS P w C H' a dx dl dn ds wd many en el where
  sl := Slt.same h s.sl
  nd := s.nd
  na1 := s.na1
  na2 := s.na2
  nx1 := s.nx1
  nx2 := s.nx2
  cn := s.cn.keep (Same.kt h) (Same.l h) (by rw [s.cn.dn_.at_]; exact h _ _ s.cn.dn_.at_)
  cl := s.cl.keep (Same.kt h) (Same.l h) (by rw [s.cl.dn_.at_]; exact h _ _ s.cl.dn_.at_)
theorem Cache.put (c : Cache P w H d dl dn es F) (hd : d = dl ∨ d = dn) {k : PK2} {q lp : Addr} (hk : atN es k = none) (hp : PairT H q k) (dm : k ∈ domL) (n1 : lp ≠ dl) (n2 : lp ≠ dn) (hl : H lp = some (.lst ((F k.1 k.2).map V.int))) :
    Cache P w (upd H d (DNo P w d (es ++ [(k, q, .ref lp)]))) d dl dn (es ++ [(k, q, .ref lp)]) F := by
  have kt : KeepT H (upd H d (DNo P w d (es ++ [(k, q, .ref lp)]))) := fun b x hx e => by
    rw [upd_ne (ext_tp hx e c.dn_.at_)]
    exact e
  have st : ∀ b o, b ≠ dl → b ≠ dn → H b = some o → (upd H d (DNo P w d (es ++ [(k, q, .ref lp)]))) b = some o := fun b o m1 m2 e => by
    rw [upd_ne (by rcases hd with z | z <;> rw [z] <;> assumption)]
    exact e
  refine ⟨⟨upd_same, fun e he => ?_⟩, fun e he => ?_, ?_, fun e he => ?_⟩
  · rcases List.mem_append.mp he with he | he
    · exact (c.dn_.keys e he).keep kt
    · obtain rfl := List.mem_singleton.mp he
      exact hp.keep kt
  · rcases List.mem_append.mp he with he | he
    · obtain ⟨lp2, e1, m1, m2, h⟩ := c.vals e he
      exact ⟨lp2, e1, m1, m2, st _ _ m1 m2 h⟩
    · obtain rfl := List.mem_singleton.mp he
      exact ⟨lp, rfl, n1, n2, st _ _ n1 n2 hl⟩
  · rw [List.map_append]
    refine List.nodup_append.mpr ⟨c.uniq, by simp, fun x hx y hy => ?_⟩
    obtain rfl : y = k := by simpa using hy
    rintro rfl
    obtain ⟨e, he, ee⟩ := List.mem_map.mp hx
    unfold atN at hk
    rw [Option.map_eq_none_iff, List.find?_eq_none] at hk
    exact hk e he (decide_eq_true ee)
  · rcases List.mem_append.mp he with he | he
    · exact c.dom e he
    · obtain rfl := List.mem_singleton.mp he
      exact dm
theorem Cache.get (c : Cache P w H d dl dn es F) {k : PK2} {v : V} (h : atN es k = some v) : ∃ lp, v = .ref lp ∧ lp ≠ dl ∧ lp ≠ dn ∧ H lp = some (.lst ((F k.1 k.2).map V.int)) := by
  unfold atN at h
  obtain ⟨e, he, rfl⟩ := Option.map_eq_some_iff.mp h
  have hm := List.mem_of_find?_eq_some he
  have hk : e.1 = k := of_decide_eq_true (List.find?_some (p := fun (e : PK2 × Addr × V) => decide (e.1 = k)) he)
  obtain ⟨lp, e1, n1, n2, hl⟩ := c.vals e hm
  rw [hk] at hl
  exact ⟨lp, e1, n1, n2, hl⟩
theorem at_snoc {k : PK2} {q : Addr} {v : V} (h : atN es k = none) : atN (es ++ [(k, q, v)]) k = some v := by
  unfold atN at h ⊢
  rw [List.find?_append]
  rw [Option.map_eq_none_iff] at h
  rw [h]
  simp
end
section
variable {P : Program} {w : World} {C : Addr} {H : Hp} {a dx dl dn : Addr} {ds : V} {wd : Bool} {many : Nat} {en el : NEs} {k : PK2} {q lp : Addr}
theorem LS.putn (s : LS P w C H a dx dl dn ds wd many en el) (hk : atN en k = none) (hp : PairT H q k) (dm : k ∈ domL) (n1 : lp ≠ dl) (n2 : lp ≠ dn) (hl : H lp = some (.lst ((numberedM wd many k.1 k.2).map V.int))) :
    LS P w C (upd H dn (DNo P w dn (en ++ [(k, q, .ref lp)]))) a dx dl dn ds wd many (en ++ [(k, q, .ref lp)]) el := by
  have st : SameL dl dn H (upd H dn (DNo P w dn (en ++ [(k, q, .ref lp)]))) := fun b o m1 m2 e => by rw [upd_ne m2]; exact e
  exact ⟨slt_keep s.na1 s.na2 s.nx1 s.nx2 s.sl st, s.nd, s.na1, s.na2, s.nx1, s.nx2, s.cn.put (.inr rfl) hk hp dm n1 n2 hl, s.cl.keep (s.kt st) st (upd_ne s.nd)⟩
theorem LS.putl (s : LS P w C H a dx dl dn ds wd many en el) (hk : atN el k = none) (hp : PairT H q k) (dm : k ∈ domL) (n1 : lp ≠ dl) (n2 : lp ≠ dn) (hl : H lp = some (.lst ((linkedM wd many k.1.length k.1 k.2).map V.int))) :
    LS P w C (upd H dl (DNo P w dl (el ++ [(k, q, .ref lp)]))) a dx dl dn ds wd many en (el ++ [(k, q, .ref lp)]) := by
  have st : SameL dl dn H (upd H dl (DNo P w dl (el ++ [(k, q, .ref lp)]))) := fun b o m1 m2 e => by rw [upd_ne m1]; exact e
  exact ⟨slt_keep s.na1 s.na2 s.nx1 s.nx2 s.sl st, s.nd, s.na1, s.na2, s.nx1, s.nx2, s.cn.keep (s.kt st) st (upd_ne (Ne.symm s.nd)), s.cl.put (.inl rfl) hk hp dm n1 n2 hl⟩
end
/-! ### bounds -/
def contOk (l : LI) : Bool := (contM l).all (fun c => decide (c.natAbs < 100)) && decide ((contM l).length ≤ 100)
theorem cont_all : ∀ t, t ≤ 7 → ∀ l ∈ lotsM t, contOk l = true := by decide +kernel
theorem pairs_ok {l m : LI} (h : Tiny l) (h2 : Tiny m) : (pairsM l m).length ≤ 20 ∧ ∀ d ∈ pairsM l m, (∀ c ∈ d.1, c.natAbs < 100) ∧ d.1.length ≤ 100 ∧ d.2.natAbs < 2 ^ 20 := by
  have hs7 : l.sum.toNat ≤ 7 := by have := h.sum; omega
  constructor
  · unfold pairsM
    simp only
    rw [List.length_map]
    refine Nat.le_trans (List.length_filter_le _ _) ?_
    have := congrArg List.length (col_keys l)
    rw [List.length_map] at this
    rw [this]
    exact lots_len _ hs7
  · intro d hd
    unfold pairsM at hd
    simp only at hd
    obtain ⟨p, hp, rfl⟩ := List.mem_map.mp hd
    have hp1 := (List.mem_filter.mp hp).1
    have hk : p.1 ∈ lotsM l.sum.toNat := by rw [← col_keys]; exact List.mem_map.mpr ⟨p, hp1, rfl⟩
    have hc := cont_all _ hs7 _ hk
    unfold contOk at hc
    rw [Bool.and_eq_true] at hc
    have b1 := col_bd h p hp1
    have b2 : (look 0 (colM m) p.1).natAbs < 1000 := look_bd (by decide) (col_bd h2)
    refine ⟨fun c hcm => of_decide_eq_true (List.all_eq_true.mp hc.1 c hcm), of_decide_eq_true hc.2, ?_⟩
    exact wide_lt (a := 10) (b := 10) (show p.2.natAbs < 2 ^ 10 by omega) (show (look 0 (colM m) p.1).natAbs < 2 ^ 10 by omega)
theorem fr_len (cs : LI) (wd : Bool) (k : Nat) : (factorRow cs wd k).length = k + 1 := by
  unfold factorRow
  cases wd with
  | true => simp
  | false =>
    show (rowsM cs k).length = k + 1
    have : ∀ l : LI, ∀ f : LI, (l.foldl (fun f c => passM f c k) f).length = f.length := fun l => by
      induction l with
      | nil => intro f; rfl
      | cons c l ih => intro f; rw [List.foldl_cons, ih, pass_len]
    unfold rowsM
    rw [this]
    simp
theorem rows_bd (k : Nat) : ∀ (cs f : LI) (n : Nat), Bd f n → (∀ c ∈ cs, c.natAbs < 100) → Bd (cs.foldl (fun f c => passM f c k) f) (n + 7 * k * cs.length)
  | [], f, n, h, _ => by simpa using h
  | c :: cs, f, n, h, hc => by
    have := rows_bd k cs (passM f c k) (n + 7 * k) (pass_bd h (hc c List.mem_cons_self) k) fun x hx => hc x (List.mem_cons_of_mem _ hx)
    rw [List.foldl_cons]
    refine this.mono ?_
    rw [List.length_cons, Nat.mul_succ]
    omega
theorem fr_bd {cs : LI} {k : Nat} (hc : ∀ c ∈ cs, c.natAbs < 100) (hl : cs.length ≤ 100) (hk : k ≤ 8) (wd : Bool) : Bd (factorRow cs wd k) 6000 := by
  cases wd with
  | true =>
    intro x hx
    obtain ⟨j, hj, rfl⟩ := List.mem_map.mp (show x ∈ (List.range (k + 1)).map fun (k : Nat) => cs.sum ^ k from hx)
    have hj := List.mem_range.mp hj
    have : ∀ l : LI, (∀ c ∈ l, c.natAbs < 100) → l.sum.natAbs ≤ 100 * l.length := fun l => by
      induction l with
      | nil => intro _; simp
      | cons c l ih =>
        intro h
        have h1 := h c List.mem_cons_self
        have h2 := ih fun x hx => h x (List.mem_cons_of_mem _ hx)
        rw [List.sum_cons, List.length_cons]
        omega
    have hs := this cs hc
    rw [Int.natAbs_pow]
    have h1 := Nat.pow_le_pow_left (show cs.sum.natAbs ≤ 2 ^ 14 by omega) j
    rw [← Nat.pow_mul] at h1
    exact Nat.lt_of_le_of_lt h1 (Nat.pow_lt_pow_right (by decide) (by omega))
  | false =>
    have := rows_bd k cs (1 :: List.replicate k 0) 1 (fun x hx => by
      rcases List.mem_cons.mp hx with rfl | hx
      · decide
      · rw [(List.mem_replicate.mp hx).2]; decide) hc
    refine this.mono ?_
    have h1 : 7 * k * cs.length ≤ 7 * 8 * 100 := Nat.mul_le_mul (by omega) hl
    omega
theorem zip_bd {f r : LI} {n : Nat} {c : Int} (hf : Bd f n) (hr : Bd r 6000) (hc : c.natAbs < 2 ^ 20) (hn : 6020 ≤ n) : Bd (List.zipWith (fun e m => e + c * m) f r) (n + 1) := by
  intro x hx
  obtain ⟨i, hi, rfl⟩ := List.mem_iff_getElem.mp hx
  rw [List.getElem_zipWith]
  rw [List.length_zipWith] at hi
  have h1 := hf _ (List.getElem_mem (l := f) (n := i) (by omega))
  have h2 := wide_lt hc (hr _ (List.getElem_mem (l := r) (n := i) (by omega)))
  have h3 : (c * r[i]'(by omega)).natAbs < 2 ^ n := Nat.lt_of_lt_of_le h2 (Nat.pow_le_pow_right (by decide) (by omega))
  have h4 := Int.natAbs_add_le (f[i]'(by omega)) (c * r[i]'(by omega))
  rw [Nat.pow_succ]
  omega
theorem num_fold {wd : Bool} {many : Nat} (hk : many ≤ 8) : ∀ (ps : List (LI × Int)) (f : LI) (n : Nat), 6020 ≤ n → Bd f n → f.length = many + 1 → (∀ d ∈ ps, (∀ c ∈ d.1, c.natAbs < 100) ∧ d.1.length ≤ 100 ∧ d.2.natAbs < 2 ^ 20) →
    Bd (ps.foldl (fun found p => List.zipWith (fun e m => e + p.2 * m) found (factorRow p.1 wd many)) f) (n + ps.length) ∧ (ps.foldl (fun found p => List.zipWith (fun e m => e + p.2 * m) found (factorRow p.1 wd many)) f).length = many + 1
  | [], f, n, _, h, hl, _ => ⟨h, hl⟩
  | p :: ps, f, n, hn, h, hl, hp => by
    obtain ⟨h1, h2, h3⟩ := hp p List.mem_cons_self
    have := num_fold (wd := wd) hk ps (List.zipWith (fun e m => e + p.2 * m) f (factorRow p.1 wd many)) (n + 1) (by omega) (zip_bd h (fr_bd h1 h2 hk wd) h3 hn) (by rw [List.length_zipWith, fr_len, hl]; exact Nat.min_self _) fun d hd => hp d (List.mem_cons_of_mem _ hd)
    rw [List.foldl_cons, List.length_cons, show n + (ps.length + 1) = n + 1 + ps.length by omega]
    exact this
theorem num_ok {l m : LI} (h : Tiny l) (h2 : Tiny m) {many : Nat} (hk : many ≤ 8) (wd : Bool) : Bd (numberedM wd many l m) 6100 ∧ (numberedM wd many l m).length = many + 1 := by
  obtain ⟨h3, h4⟩ := pairs_ok h h2
  have := num_fold (wd := wd) hk (pairsM l m) (List.replicate (many + 1) 0) 6020 (by omega) (fun x hx => by rw [(List.mem_replicate.mp hx).2]; exact Nat.two_pow_pos _) (by simp) h4
  exact ⟨this.1.mono (by omega), this.2⟩
section
variable {K : PySem.W.Frag} {P : Program} {w : World} {ta tv : TE} {f : Str} {D : Ends} {σ : L2.St} {H : Hp} {Q : VK} {x y : V} {C : Addr} {sp : Sp} {t : TA}
theorem ap_sSl : SlX.sSl K ta tv f D σ H = tv σ H fun y H1 => ta σ H1 fun x H2 => ∃ a C dx p vs i, x = .ref a ∧ SlX.Slt H2 a C dx vs ∧ SlX.SCls K C ∧ SlX.Slot1 K C f p i ∧ D.nx σ (SlX.slH H2 a C dx (SlX.putS i y vs)) := rfl
theorem ap_nnew : tNNew P w σ H Q = ∀ p, H p = none → Q (.ref p) (upd H p (DNo P w p [])) := rfl
theorem r_nni : rNNotIn P w x y H Q = ∃ (q a : Addr) (k : PK2) (es : NEs), x = .ref q ∧ y = .ref a ∧ PairT H q k ∧ DN P w H a es ∧ Q (.bl (!(atN es k).isSome)) H := rfl
theorem r_nget : rNGet P w x y H Q = ∃ (a q : Addr) (k : PK2) (es : NEs) (v : V), x = .ref a ∧ y = .ref q ∧ PairT H q k ∧ DN P w H a es ∧ atN es k = some v ∧ Q v H := rfl
theorem r_nput {v : V} {Qs : Hp → Prop} : sNPut P w x y v H Qs = ∃ (a q : Addr) (k : PK2) (es : NEs), x = .ref a ∧ y = .ref q ∧ PairT H q k ∧ DN P w H a es ∧ atN es k = none ∧ es.length < 1000 ∧ Qs (upd H a (DNo P w a (es ++ [(k, q, v)]))) := rfl
theorem ap_mt : tMt C sp ta t σ H Q = ta σ H fun x H1 => ∃ a dx vs, x = .ref a ∧ SlX.Slt H1 a C dx vs ∧ t σ H1 fun ws H2 => sp (x :: ws) H2 Q E0 := rfl
end
theorem slH_ne {H : Hp} {a C dx b : Addr} {vs : List (Option V)} (h1 : b ≠ a) (h2 : b ≠ dx) : SlX.slH H a C dx vs b = H b := by
  unfold SlX.slH
  rw [upd_ne h1, upd_ne h2]
theorem slH_no {H : Hp} {a C dx b : Addr} {vs : List (Option V)} (h : SlX.slH H a C dx vs b = none) : b ≠ a ∧ b ≠ dx ∧ H b = none := by
  have h1 : b ≠ a := fun z => by
    unfold SlX.slH at h
    rw [z, upd_same] at h
    cases h
  have h2 : b ≠ dx := fun z => by
    unfold SlX.slH at h
    rw [upd_ne h1, z, upd_same] at h
    cases h
  rw [slH_ne h1 h2] at h
  exact ⟨h1, h2, h⟩
def spInit (P : Program) (w : World) (C : Addr) : Sp := fun vs H Q _ => ∃ a dx wd, ∃ many : Nat, vs = [.ref a, .str (wordS wd), .int (many : Nat)] ∧ H a = some (.ins C dx []) ∧ dx ≠ a ∧
  ∀ dl dn ds H', H dl = none → H dn = none → LS P w C H' a dx dl dn ds wd many [] [] → (∀ b o, b ≠ a → b ≠ dx → H b = some o → H' b = some o) → Q .non H'
def spNumbered (P : Program) (w : World) (C : Addr) : Sp := fun vs H Q _ => ∃ a dx dl dn ds wd many en el v l u m, vs = [.ref a, v, u] ∧ LS P w C H a dx dl dn ds wd many en el ∧ many ≤ 8 ∧ TR H v l ∧ TR H u m ∧ Tiny l ∧ Tiny m ∧ l.sum = m.sum ∧
  ∀ lp H' en', SameL dl dn H H' → LS P w C H' a dx dl dn ds wd many en' el → lp ≠ dl → lp ≠ dn → H' lp = some (.lst ((numberedM wd many l m).map V.int)) → Q (.ref lp) H'
end K53
/-! B9: partings and bounds of linked lists; enough fuel. -/
namespace K53
open PySem PySem.Spec PyProof.Rows L2
def lotB (l : LI) : Bool := l.all (fun m => decide (1 ≤ m)) && decide (l.Pairwise (· ≥ ·))
theorem lotB_ok {l : LI} (h : lotB l = true) : (∀ m ∈ l, 1 ≤ m) ∧ l.Pairwise (· ≥ ·) := by
  unfold lotB at h
  rw [Bool.and_eq_true] at h
  exact ⟨fun m hm => of_decide_eq_true (List.all_eq_true.mp h.1 m hm), of_decide_eq_true h.2⟩
theorem lotB_tiny {l : LI} (h : lotB l = true) (hs : l.sum ≤ 7) : Tiny l := by
  obtain ⟨h1, h2⟩ := lotB_ok h
  have := len_le_sum h1
  exact ⟨l.sum.toNat, by omega, by omega, h1, h2⟩
def sh2Ok (l : LI) : Bool := (sharesM l).all fun f => lotB f.1 && lotB f.2.1 && decide (f.1.sum + f.2.1.sum = l.sum)
def sf2Ok (l : LI) : Bool := (sharesFirstM l).all fun f => lotB f.1 && lotB f.2.1 && decide (f.1.sum + f.2.1.sum = l.sum) && decide (f.1 ≠ []) && decide (f.1.length + f.2.1.length = l.length)
theorem sh2_all : ∀ t, t ≤ 7 → ∀ l ∈ lotsM t, sh2Ok l = true := by decide +kernel
theorem sf2_all : ∀ t, t ≤ 7 → ∀ l ∈ lotsM t, l ≠ [] → sf2Ok l = true := by decide +kernel
structure Part (l m : LI) (p : (LI × LI) × (LI × LI) × Int) : Prop where
  t1 : Tiny p.1.1
  t2 : Tiny p.1.2
  t3 : Tiny p.2.1.1
  t4 : Tiny p.2.1.2
  e1 : p.1.1.sum = p.1.2.sum
  e2 : p.2.1.1.sum = p.2.1.2.sum
  ne : p.1.1 ≠ []
  lt : p.1.1.length < l.length
  wb : p.2.2.natAbs < 2 ^ 20
theorem part_ok {l m : LI} (h : Tiny l) (h2 : Tiny m) (es : l.sum = m.sum) (hne : l ≠ []) : (partM l m).length ≤ 40000 ∧ ∀ p ∈ partM l m, Part l m p := by
  obtain ⟨t, ht, hm⟩ := h.mem_lots
  obtain ⟨t2, ht2, hm2⟩ := h2.mem_lots
  have a1 := sf2_all t ht l hm hne
  have a2 := sh2_all t2 ht2 m hm2
  have fo := first_ok h hne
  have so := h2.shares (Nat.le_refl (kindsM m).length)
  rw [List.take_length] at so
  have ls := h.sum
  constructor
  · unfold partM
    simp only
    have : ∀ L : List (LI × LI × Int), (L.flatMap fun f => ((sharesM m).filter fun l => decide (f.2.1 ≠ []) && decide (f.1.sum = l.1.sum)).map fun l => ((f.1, l.1), (f.2.1, l.2.1), f.2.2 * l.2.2)).length ≤ 200 * L.length := fun L => by
      induction L with
      | nil => simp
      | cons f L ih =>
        rw [List.flatMap_cons, List.length_append, List.length_cons, List.length_map]
        have h1 := List.length_filter_le (fun l => decide (f.2.1 ≠ []) && decide (f.1.sum = l.1.sum)) (sharesM m)
        have h2 : (sharesM m).length ≤ 200 := so.1
        omega
    have := this (sharesFirstM l)
    have := fo.1.1
    omega
  · intro p hp
    unfold partM at hp
    simp only at hp
    obtain ⟨f, hf, hp⟩ := List.mem_flatMap.mp hp
    obtain ⟨g, hg, rfl⟩ := List.mem_map.mp hp
    obtain ⟨hg1, hg2⟩ := List.mem_filter.mp hg
    rw [Bool.and_eq_true] at hg2
    have n1 : f.2.1 ≠ [] := of_decide_eq_true hg2.1
    have e1 : f.1.sum = g.1.sum := of_decide_eq_true hg2.2
    have b1 := List.all_eq_true.mp a1 f hf
    simp only [Bool.and_eq_true] at b1
    obtain ⟨⟨⟨⟨c1, c2⟩, c3⟩, c4⟩, c5⟩ := b1
    have c3 : f.1.sum + f.2.1.sum = l.sum := of_decide_eq_true c3
    have c5 : f.1.length + f.2.1.length = l.length := of_decide_eq_true c5
    have b2 := List.all_eq_true.mp a2 g hg1
    simp only [Bool.and_eq_true] at b2
    obtain ⟨⟨d1, d2⟩, d3⟩ := b2
    have d3 : g.1.sum + g.2.1.sum = m.sum := of_decide_eq_true d3
    have f1 := len_le_sum (lotB_ok c1).1
    have f2 := len_le_sum (lotB_ok c2).1
    have g1 := len_le_sum (lotB_ok d1).1
    have g2 := len_le_sum (lotB_ok d2).1
    have p1 := List.length_pos_iff.mpr n1
    refine ⟨lotB_tiny (l := f.1) c1 (by omega), lotB_tiny (l := g.1) d1 (by omega), lotB_tiny (l := f.2.1) c2 (by omega), lotB_tiny (l := g.2.1) d2 (by omega), e1, ?_, of_decide_eq_true c4, ?_, ?_⟩
    · show f.2.1.sum = g.2.1.sum
      omega
    · show f.1.length < l.length
      omega
    · exact wide_lt (a := 10) (b := 10) (show f.2.2.natAbs < 2 ^ 10 by have := fo.2 f hf; omega) (show g.2.2.natAbs < 2 ^ 10 by have := (so.2 g hg1).1; omega)
/-! ### bounds of put_beside -/
theorem set_bd {f : LI} {n i : Nat} {x : Int} (h : Bd f n) (hx : x.natAbs < 2 ^ n) : Bd (f.set i (f.getD i 0 + x)) (n + 1) := fun y hy => by
  rw [Nat.pow_succ]
  rcases List.mem_or_eq_of_mem_set hy with hy | rfl
  · have := h y hy
    omega
  · have := h.getD i
    have := Int.natAbs_add_le (f.getD i 0) x
    omega
theorem step_bd {wd : Bool} {ways entry : Int} {place : Nat} {other : LI} {b c : Nat} (hw : ways.natAbs < 2 ^ 20) (he : entry.natAbs < 2 ^ b) (ho : Bd other c) : ∀ (ns : List Nat) (f : LI) (n : Nat), Bd f n → b + c + 30 ≤ n → (∀ s ∈ ns, place + s ≤ 8) →
    Bd (ns.foldl (besideStep wd ways place entry other) f) (n + ns.length)
  | [], _, _, h, _, _ => h
  | s :: ns, f, n, h, hn, hs => by
    have hps := hs s List.mem_cons_self
    have ht : ((if wd then (choose (place + s) place : Int) else 1) : Int).natAbs < 2 ^ 10 := by
      split
      · have := choose_lt (place + s) (by omega) place (by omega)
        omega
      · decide
    have w1 := wide_lt (wide_lt (wide_lt hw ht) he) (ho.getD s)
    have := step_bd (wd := wd) (place := place) hw he ho ns (besideStep wd ways place entry other f s) (n + 1) (set_bd h (Nat.lt_of_lt_of_le w1 (Nat.pow_le_pow_right (by decide) (by omega)))) (by omega) fun x hx => hs x (List.mem_cons_of_mem _ hx)
    rw [List.foldl_cons, List.length_cons, show n + (ns.length + 1) = n + 1 + ns.length by omega]
    exact this
theorem beside_bd {wd : Bool} {many : Nat} {ways : Int} {other : LI} {b c : Nat} (hm : many ≤ 8) (hw : ways.natAbs < 2 ^ 20) (ho : Bd other c) : ∀ (l : LI) (place : Nat) (f : LI) (n : Nat), Bd l b → Bd f n → b + c + 30 ≤ n → Bd (besideFrom wd many ways other place l f) (n + 9 * l.length)
  | [], _, _, _, _, h, _ => h
  | x :: l, place, f, n, hl, h, hn => by
    have hx := hl x List.mem_cons_self
    have h1 : Bd (bsE wd many ways other place x f) (n + 9) := by
      unfold bsE
      split
      · refine (step_bd hw hx ho (List.range (many + 1 - place)) f n h hn fun s hs => ?_).mono ?_
        · have := List.mem_range.mp hs; omega
        · rw [List.length_range]; omega
      · exact h.mono (by omega)
    have := beside_bd (wd := wd) hm hw ho l (place + 1) (bsE wd many ways other place x f) (n + 9) (fun y hy => hl y (List.mem_cons_of_mem _ hy)) h1 (by omega)
    rw [List.length_cons, show n + 9 * (l.length + 1) = n + 9 + 9 * l.length by omega]
    exact this
theorem sub_bd {f r : LI} {n : Nat} (hf : Bd f n) (hr : Bd r n) : Bd (List.zipWith (fun e m => e - m) f r) (n + 1) := by
  intro x hx
  obtain ⟨i, hi, rfl⟩ := List.mem_iff_getElem.mp hx
  rw [List.getElem_zipWith]
  rw [List.length_zipWith] at hi
  have h1 := hf _ (List.getElem_mem (l := f) (n := i) (by omega))
  have h2 := hr _ (List.getElem_mem (l := r) (n := i) (by omega))
  rw [Nat.pow_succ]
  omega
/-- one parting taken away -/
def lnkStep (wd : Bool) (many f : Nat) (found : LI) (p : (LI × LI) × (LI × LI) × Int) : LI :=
  List.zipWith (fun e n => e - n) found (besideM wd many (linkedM wd many f p.1.1 p.1.2) (numberedM wd many p.2.1.1 p.2.1.2) p.2.2)
theorem lnk_succ (wd : Bool) (many f : Nat) (l m : LI) : linkedM wd many (f + 1) l m = (partM l m).foldl (lnkStep wd many f) (numberedM wd many l m) := rfl
theorem fold_bd {wd : Bool} {many f b : Nat} (hm : many ≤ 8) {l m : LI} : ∀ (ps : List ((LI × LI) × (LI × LI) × Int)) (g : LI) (n : Nat), (∀ p ∈ ps, Part l m p) →
    (∀ p ∈ ps, Bd (linkedM wd many f p.1.1 p.1.2) b ∧ (linkedM wd many f p.1.1 p.1.2).length = many + 1) → Bd g n → g.length = many + 1 → b + 6300 ≤ n →
    Bd (ps.foldl (lnkStep wd many f) g) (n + ps.length) ∧ (ps.foldl (lnkStep wd many f) g).length = many + 1
  | [], g, n, _, _, h, hl, _ => ⟨h, hl⟩
  | p :: ps, g, n, hp, hk, h, hl, hn => by
    have pp := hp p List.mem_cons_self
    obtain ⟨k1, k2⟩ := hk p List.mem_cons_self
    obtain ⟨k3, k4⟩ := num_ok pp.t3 pp.t4 hm wd
    have hb := beside_bd (wd := wd) hm pp.wb k3 (linkedM wd many f p.1.1 p.1.2) 0 (List.replicate (many + 1) 0) (b + 6100 + 30) k1 (fun x hx => by rw [(List.mem_replicate.mp hx).2]; exact Nat.two_pow_pos _) (Nat.le_refl _)
    have hbl : (besideM wd many (linkedM wd many f p.1.1 p.1.2) (numberedM wd many p.2.1.1 p.2.1.2) p.2.2).length = many + 1 := by
      unfold besideM
      rw [beside_len, List.length_replicate]
    have h1 : Bd (lnkStep wd many f g p) (n + 1) := sub_bd h (Bd.mono hb (by rw [k2]; omega))
    have h2 : (lnkStep wd many f g p).length = many + 1 := by
      unfold lnkStep
      rw [List.length_zipWith, hl, hbl]
      exact Nat.min_self _
    have := fold_bd hm ps (lnkStep wd many f g p) (n + 1) (fun q hq => hp q (List.mem_cons_of_mem _ hq)) (fun q hq => hk q (List.mem_cons_of_mem _ hq)) h1 h2 (by omega)
    rw [List.foldl_cons, List.length_cons, show n + (ps.length + 1) = n + 1 + ps.length by omega]
    exact this
theorem lnk_ok {wd : Bool} {many : Nat} (hm : many ≤ 8) : ∀ (f : Nat) (l m : LI), Tiny l → Tiny m → l.sum = m.sum → l ≠ [] → Bd (linkedM wd many f l m) (7000 + 50000 * f) ∧ (linkedM wd many f l m).length = many + 1
  | 0, l, m, h, h2, _, _ => ⟨(num_ok h h2 hm wd).1.mono (by omega), (num_ok h h2 hm wd).2⟩
  | f + 1, l, m, h, h2, es, hne => by
    obtain ⟨p1, p2⟩ := part_ok h h2 es hne
    rw [lnk_succ]
    have := fold_bd (wd := wd) (f := f) (b := 7000 + 50000 * f) hm (partM l m) (numberedM wd many l m) (7000 + 50000 * f + 6300) p2 (fun p hp => lnk_ok hm f _ _ (p2 p hp).t1 (p2 p hp).t2 (p2 p hp).e1 (p2 p hp).ne)
      ((num_ok h h2 hm wd).1.mono (by omega)) (num_ok h h2 hm wd).2 (by omega)
    exact ⟨this.1.mono (by omega), this.2⟩
/-- more fuel than members tells nothing else -/
theorem lnk_fuel {wd : Bool} {many : Nat} : ∀ (f : Nat) (l m : LI), Tiny l → Tiny m → l.sum = m.sum → l ≠ [] → l.length ≤ f → linkedM wd many f l m = linkedM wd many l.length l m := by
  intro f
  induction f using Nat.strongRecOn with
  | ind f ih =>
    intro l m h h2 es hne hl
    have hp := List.length_pos_iff.mpr hne
    obtain ⟨f', rfl⟩ : ∃ f', f = f' + 1 := ⟨f - 1, by omega⟩
    obtain ⟨k, hk⟩ : ∃ k, l.length = k + 1 := ⟨l.length - 1, by omega⟩
    obtain ⟨_, p2⟩ := part_ok h h2 es hne
    rw [hk, lnk_succ, lnk_succ]
    have : ∀ (ps : List ((LI × LI) × (LI × LI) × Int)) (g : LI), (∀ p ∈ ps, Part l m p) → ps.foldl (lnkStep wd many f') g = ps.foldl (lnkStep wd many k) g := fun ps => by
      induction ps with
      | nil => intro g _; rfl
      | cons p ps ih2 =>
        intro g hps
        have pp := hps p List.mem_cons_self
        have q1 := ih f' (by omega) p.1.1 p.1.2 pp.t1 pp.t2 pp.e1 pp.ne (by have := pp.lt; omega)
        have q2 := ih k (by omega) p.1.1 p.1.2 pp.t1 pp.t2 pp.e1 pp.ne (by have := pp.lt; omega)
        rw [List.foldl_cons, List.foldl_cons]
        have : lnkStep wd many f' g p = lnkStep wd many k g p := by
          unfold lnkStep
          rw [q1, q2]
        rw [this]
        exact ih2 _ fun q hq => hps q (List.mem_cons_of_mem _ hq)
    exact this _ _ p2
def spLinked (n : Nat) (P : Program) (w : World) (C : Addr) : Sp := fun vs H Q _ => ∃ a dx dl dn ds wd many en el v l u m, vs = [.ref a, v, u] ∧ LS P w C H a dx dl dn ds wd many en el ∧ many ≤ 8 ∧ TB H v l ∧ TB H u m ∧ Tiny l ∧ Tiny m ∧ l.sum = m.sum ∧ l ≠ [] ∧ l.length ≤ n ∧
  ∀ lp H' en' el', SameL dl dn H H' → LS P w C H' a dx dl dn ds wd many en' el' → (∀ k : PK2, atN el k = none → l.length < k.1.length → atN el' k = none) → lp ≠ dl → lp ≠ dn → H' lp = some (.lst ((linkedM wd many l.length l m).map V.int)) → Q (.ref lp) H'
theorem KeepT.tup {H H' : Hp} (k : KeepT H H') {b : Addr} {ys : List V} (h : H b = some (.tup ys)) : H' b = some (.tup ys) := k _ _ trivial h
theorem at_snoc_ne {es : NEs} {k j : PK2} {q : Addr} {v : V} (h : atN es k = none) (hn : j ≠ k) : atN (es ++ [(j, q, v)]) k = none := by
  unfold atN at h ⊢
  rw [Option.map_eq_none_iff] at h ⊢
  rw [List.find?_append, h]
  simp [hn]
theorem CalM.mono {P : Program} {w : World} {K : PySem.W.Frag} {mg : Str → Option Value} {base : Heap} {C : Addr} {j k : Nat} {m : Str} {sp : Sp} (c : CalM P w K mg base C j m sp) (h : j ≤ k) : CalM P w K mg base C k m sp := by
  obtain ⟨f, F, hm⟩ := c.ex
  exact ⟨f, F.mono h, hm⟩
end K53
/-! B10: the class called; a def with one keyword-only default. -/
namespace K53
open PySem PySem.Spec PyProof.Rows L2
/-- the class that makes its objects -/
structure LkM (K : PySem.W.Frag) (mg : Str → Option Value) (C : Addr) : Prop where
  at_ : mg "Links" = some (.ref C)
  makes : PySem.W.makesIn K C = true
  kp : PySem.W.keepIn K (.ref C) = true
def tMakeI (C : Addr) (sp : Sp) (t : TA) : TE := fun σ H Q => t σ H fun vs H1 => ∀ x dx, H1 x = none → H1 dx = none → dx ≠ x → sp (V.ref x :: vs) (upd (upd H1 dx (.own x)) x (.ins C dx [])) (fun v H2 => v = .non ∧ Q (.ref x) H2) E0
section
variable {X : Cx} {k j : Nat} {sp : Sp} {e : Expr} {es : List Expr} {t : TA} {p pos : Pos} {C : Addr}
theorem pe_mk (c : CalM X.prog X.w X.K X.mg X.base C k "__init__" sp) (M : LkM X.K X.mg C) (hr : Room j X.A) (hk : k + 1 ≤ j) (hg : Gl X "Links") (ha : PA X (e :: es) t) (he : starEach (e :: es) X.env = (false, eval e X.env) :: starEach es X.env := by rfl) (hpl : (backTo pos (starEach es X.env)).any (·.1) = false := by rfl) :
    PE X (.Call (.Name "Links" p) (e :: es) [] pos) (tMakeI C sp t) := by
  obtain ⟨f, F, hm⟩ := c.ex
  exact StX.pe_makeR ⟨M.makes, hm.at_, hm.fn, M.kp⟩ F (hr.mono hk) hg M.at_ pass0 ha (by decide) he hpl
theorem ap_mk {σ : L2.St} {H : Hp} {Q : VK} : tMakeI C sp t σ H Q = t σ H fun vs H1 => ∀ x dx, H1 x = none → H1 dx = none → dx ≠ x → sp (V.ref x :: vs) (upd (upd H1 dx (.own x)) x (.ins C dx [])) (fun v H2 => v = .non ∧ Q (.ref x) H2) E0 := rfl
end
/-- the def st under its name, with the keyword word that lacks as a rule -/
structure DefW (K : PySem.W.Frag) (mg : Str → Option Value) (x : Str) (st : Stmt) : Prop where
  ex : ∃ f fd, FunD K x x (defArgs st) (defBody st) (defScope st) [] [("word", .str "all")] f fd ∧ mg x = some (.ref f)
structure CalW (P : Program) (w : World) (K : PySem.W.Frag) (mg : Str → Option Value) (base : Heap) (k : Nat) (x : Str) (sp : Sp) : Prop where
  ex : ∃ (f : Addr) (fd : FuncData) (ps : List Str), FnOk P w K mg base CX0 k f fd ps sp ∧ mg x = some (.ref f) ∧ PySem.W.keepIn K (.ref f) = true ∧ (∃ ds, Vals [.str "all"] ds ∧ Binds K fd ps ds) ∧ KBn K fd ps 3 ["word"] (fun us ws => us ++ ws) (fun vs zs => vs ++ zs)
def tCw (sp : Sp) (t : TA) : TE := fun σ H Q => t σ H fun vs H1 => sp (vs ++ [.str "all"]) H1 Q E0
def tCk (sp : Sp) (t tk : TA) : TE := fun σ H Q => t σ H fun vs H1 => tk σ H1 fun zs H2 => vs.length = 3 ∧ zs.length = 1 ∧ sp (vs ++ zs) H2 Q E0
section
variable {X : Cx} {k j : Nat} {x : Str} {sp : Sp} {p pos : Pos} {e : Expr} {es : List Expr} {t tk : TA} {kws : List Keyword} {σ : L2.St} {H : Hp} {Q : VK}
theorem ap_cw : tCw sp t σ H Q = t σ H fun vs H1 => sp (vs ++ [.str "all"]) H1 Q E0 := rfl
theorem ap_ck : tCk sp t tk σ H Q = t σ H fun vs H1 => tk σ H1 fun zs H2 => vs.length = 3 ∧ zs.length = 1 ∧ sp (vs ++ zs) H2 Q E0 := rfl
theorem pe_cw (c : CalW X.prog X.w X.K X.mg X.base k x sp) (hr : Room j X.A) (hk : k ≤ j) (hg : Gl X x) (ha : PA X (e :: es) t)
    (hdb : (x == ("__debug__" : Str)) = false := by decide) (he : starEach (e :: es) X.env = (false, eval e X.env) :: starEach es X.env := by rfl) (hpl : (backTo pos (starEach es X.env)).any (·.1) = false := by rfl) :
    PE X (.Call (.Name x p) (e :: es) [] pos) (tCw sp t) := by
  obtain ⟨f, fd, ps, F, hm, kp, ⟨ds, hd, b⟩, _⟩ := c.ex
  exact pe_call F (hr.mono hk) hg hm kp b hd pass0 ha hdb he hpl
theorem pe_ck (c : CalW X.prog X.w X.K X.mg X.base k x sp) (hr : Room j X.A) (hk : k ≤ j) (hg : Gl X x) (ha : PA X (e :: es) t) (hkw : PK X kws tk) (hall : (backToKw pos (keywordEach kws X.env)).all (·.1.isSome) = true := by rfl) (hks : (backToKw pos (keywordEach kws X.env)).filterMap (·.1) = [("word" : Str)] := by rfl)
    (hdb : (x == ("__debug__" : Str)) = false := by decide) (he : starEach (e :: es) X.env = (false, eval e X.env) :: starEach es X.env := by rfl)
    (hpl : ((backTo pos (starEach (e :: es) X.env)).any (·.1) || (backToKw pos (keywordEach kws X.env)).any (·.1.isNone)) = false := by rfl) :
    PE X (.Call (.Name x p) (e :: es) kws pos) (tCk sp t tk) := by
  obtain ⟨f, fd, ps, F, hm, kp, _, kb⟩ := c.ex
  exact pe_callN F (hr.mono hk) hg hm kp kb pass0 ha hkw hall hks hdb he hpl
end
section
variable {P : Program} {w : World} {K : PySem.W.Frag} {mg : Str → Option Value} {base : Heap}
theorem calw_of {k : Nat} {sp : Sp} (D : DefW K mg "linked_number" s_linked_number)
    (len : ∀ vs H Q E, sp vs H Q E → vs.length = 4)
    (body : ∀ (f : Addr) (cdv : Value) (A : Around) (outer : List Env) (s : Shared) (H : Hp) (vs : List V) (Q : VK) (E : XK), Room k (A.deeper (envOfC "linked_number" (defScope s_linked_number) s.heap.objs.size f cdv)) → sp vs H Q E →
      ∃ t, PSs (cxOf CX0 P w K mg base ["one", "other", "many", "word"] "linked_number" (defScope s_linked_number) f cdv A outer s H E).nox (defBody s_linked_number) t ∧ t { nx := fun _ H' => Q .non H', rt := Q } (start ["one", "other", "many", "word"] vs) H) : CalW P w K mg base (k + 1) "linked_number" sp := by
  obtain ⟨f, fd, F, hm⟩ := D.ex
  have ok : FnOk P w K mg base CX0 (k + 1) f fd ["one", "other", "many", "word"] sp := F.ok sc_linked_number len fun cdv A outer s H vs Q E hr h => by
    obtain ⟨t, h1, h2⟩ := body f cdv A outer s H vs Q E hr h
    exact ⟨t, h1.nox, h2⟩
  refine ⟨f, fd, _, ok, hm, F.kp, F.binds0 3 (by simp) rfl fun D doc pm an cdv ct us ks h1 h2 => ?_, ⟨fun s us ws X h1 h2 => ?_, fun r1 r2 => r1.append r2⟩⟩
  · match us, h1, ks, h2 with
    | [_, _, _], _, [_], _ => exact ⟨_, _, _, _, _, _, rfl, rfl, rfl⟩
  · obtain ⟨oc, od, dV, kV, doc, pm, an, cdv, ct, osl, rfl, lk, hcd, hD, hK⟩ := F.ex
    rcases hD with ⟨_, rfl⟩ | ⟨e, _⟩
    · refine .of_eq ?_
      match us, h1, ws, h2 with
      | [_, _, _], _, [_], _ => rfl
    · exact absurd rfl e
end
theorem Tiny.good {l : LI} (h : Tiny l) (hne : l ≠ []) : Good l := by
  obtain ⟨t, ht, q⟩ := h
  have h1 := len_le_sum q.pos
  have h2 := List.length_pos_iff.mpr hne
  have h3 := q.sum
  exact ⟨t, by omega, by omega, q⟩
theorem Tiny.nil_of {l : LI} (h : Tiny l) (hs : l.sum = 0) : l = [] := by
  obtain ⟨t, ht, q⟩ := h
  have h1 := len_le_sum q.pos
  exact List.eq_nil_of_length_eq_zero (by omega)
theorem prod_all : ∀ t, t ≤ 7 → ∀ l ∈ lotsM t, 0 < prodI l ∧ (prodI l).natAbs < 2 ^ 30 := by decide +kernel
theorem prod_ok {l : LI} (h : Tiny l) : 0 < prodI l ∧ (prodI l).natAbs < 2 ^ 30 := by
  obtain ⟨t, ht, hm⟩ := h.mem_lots
  exact prod_all t ht l hm
def spLinkedIn : Sp := fun vs H Q _ => ∃ v l u m, ∃ (k : Nat) (b : Bool), vs = [v, u, .int (k : Nat), .str (wordS b)] ∧ TB H v l ∧ TB H u m ∧ Tiny l ∧ Tiny m ∧ l.sum = m.sum ∧ l ≠ [] ∧ k ≤ 8 ∧ ∀ p H', Same H H' → H' p = some (fracT (linkNum b k l m)) → Q (.ref p) H'
def spLinkedNum : Sp := fun vs H Q _ => ∃ v l u m, ∃ (k : Nat) (b : Bool), vs = [v, u, .int (k : Nat), .str (wordS b)] ∧ TB H v l ∧ TB H u m ∧ Tiny l ∧ Tiny m ∧ l.sum = m.sum ∧ l ≠ [] ∧ k ≤ 8 ∧ l.length + m.length ≤ 10 ∧ ∀ p H', Same H H' → H' p = some (fracT (linkNum b k l m)) → Q (.ref p) H'
end K53
/-! B11: the single formulas as plain functions. -/
namespace K53
open PySem PySem.Spec PyProof.Rows L2
def times (x y : Int × Int) : Int × Int := frac (x.1 * y.1) (x.2 * y.2)
def ownShare (m : Int) : Int × Int := frac (m ^ m.toNat) (facI m.toNat)
def singleTop (l : LI) : Int := facI (l.sum.toNat + l.length - 2) * facI l.sum.toNat
def single0 (l : LI) : Int × Int := frac (singleTop l * (l.sum.toNat : Int) ^ (l.length - 3)) ((l.sum.toNat : Int) ^ (3 - l.length))
def singleM (l : LI) : Int × Int := l.foldl (fun f m => times f (ownShare m)) (single0 l)
def risTop (l : LI) : Int := (List.range (l.length - 3)).foldl (fun x (s : Nat) => x * (2 * l.sum + (1 + (s : Int)))) (l.foldl (fun x m => x * PySem.W.mcComb (2 * m) m) (facI l.sum.toNat))
def risBot (l : LI) : Int := (List.range (3 - l.length)).foldl (fun x (s : Nat) => x * (2 * l.sum - (0 + (s : Int)))) 1
def risingM (l : LI) : Int × Int := frac (risTop l) (risBot l)
theorem gcdI_pos {a b : Int} (h : 0 < b) : 0 < gcdI a b := by
  unfold gcdI
  have : 0 < Nat.gcd a.natAbs b.natAbs := Nat.gcd_pos_of_pos_right _ (by omega)
  omega
theorem gcdI_dvd (a b : Int) : gcdI a b ∣ a ∧ gcdI a b ∣ b := by
  unfold gcdI
  exact ⟨Int.dvd_natAbs.mp (Int.ofNat_dvd.mpr (Nat.gcd_dvd_left _ _)), Int.dvd_natAbs.mp (Int.ofNat_dvd.mpr (Nat.gcd_dvd_right _ _))⟩
theorem frac_bd {a b : Int} (h : 0 < b) : (frac a b).1.natAbs ≤ a.natAbs ∧ (frac a b).2.natAbs ≤ b.natAbs ∧ 0 < (frac a b).2 := by
  have hp := gcdI_pos (a := a) h
  obtain ⟨d1, d2⟩ := gcdI_dvd a b
  have e1 : ∀ x : Int, gcdI a b ∣ x → (x / gcdI a b).natAbs ≤ x.natAbs := fun x hx => by
    obtain ⟨y, rfl⟩ := hx
    rw [Int.mul_ediv_cancel_left _ (by omega), Int.natAbs_mul]
    exact Nat.le_mul_of_pos_left _ (by omega)
  refine ⟨e1 a d1, e1 b d2, ?_⟩
  obtain ⟨y, hy⟩ := d2
  show 0 < b / gcdI a b
  generalize gcdI a b = g at hp hy
  subst hy
  rw [Int.mul_ediv_cancel_left _ (by omega)]
  exact Int.pos_of_mul_pos_right h (by omega)
theorem fac_pos : ∀ n, 0 < facI n
  | 0 => by decide
  | n + 1 => Int.mul_pos (by omega) (fac_pos n)
theorem fac_lt2 : ∀ n : Nat, n ≤ 60 → (facI n).natAbs < 2 ^ (6 * n + 1)
  | 0, _ => by decide
  | n + 1, h => by
    show (((n : Int) + 1) * facI n).natAbs < _
    have h1 : ((n : Int) + 1).natAbs < 2 ^ 6 := by omega
    have := wide_lt h1 (fac_lt2 n (by omega))
    rw [show 6 + (6 * n + 1) = 6 * (n + 1) + 1 by omega] at this
    exact this
theorem pow_lt {m : Int} (h : m.natAbs < 2 ^ 5) (k : Nat) : (m ^ k).natAbs < 2 ^ (5 * k + 1) := by
  rw [Int.natAbs_pow]
  have := Nat.pow_le_pow_left (Nat.le_of_lt h) k
  rw [← Nat.pow_mul] at this
  exact Nat.lt_of_le_of_lt this (Nat.pow_lt_pow_right (by decide) (by omega))
theorem own_bd {m : Int} (h1 : 1 ≤ m) (h2 : m ≤ 24) : (ownShare m).1.natAbs < 2 ^ 121 ∧ (ownShare m).2.natAbs < 2 ^ 145 ∧ 0 < (ownShare m).2 := by
  obtain ⟨a, b, c⟩ := frac_bd (a := m ^ m.toNat) (fac_pos m.toNat)
  refine ⟨Nat.lt_of_le_of_lt a (Nat.lt_of_lt_of_le (pow_lt (by omega) _) (Nat.pow_le_pow_right (by decide) (by omega))), Nat.lt_of_le_of_lt b (Nat.lt_of_lt_of_le (fac_lt2 _ (by omega)) (Nat.pow_le_pow_right (by decide) (by omega))), c⟩
theorem times_bd {x y : Int × Int} {a b c d : Nat} (h1 : x.1.natAbs < 2 ^ a) (h2 : x.2.natAbs < 2 ^ b) (h3 : 0 < x.2) (g1 : y.1.natAbs < 2 ^ c) (g2 : y.2.natAbs < 2 ^ d) (g3 : 0 < y.2) :
    (times x y).1.natAbs < 2 ^ (a + c) ∧ (times x y).2.natAbs < 2 ^ (b + d) ∧ 0 < (times x y).2 := by
  obtain ⟨p, q, r⟩ := frac_bd (a := x.1 * y.1) (Int.mul_pos h3 g3)
  exact ⟨Nat.lt_of_le_of_lt p (wide_lt h1 g1), Nat.lt_of_le_of_lt q (wide_lt h2 g2), r⟩
theorem fold_single {l : LI} (hm : ∀ m ∈ l, 1 ≤ m ∧ m ≤ 24) : ∀ (i : Nat) (x : Int × Int) (a b : Nat), i ≤ l.length → x.1.natAbs < 2 ^ a → x.2.natAbs < 2 ^ b → 0 < x.2 →
    ((l.take i).foldl (fun f m => times f (ownShare m)) x).1.natAbs < 2 ^ (a + 121 * i) ∧ ((l.take i).foldl (fun f m => times f (ownShare m)) x).2.natAbs < 2 ^ (b + 145 * i) ∧ 0 < ((l.take i).foldl (fun f m => times f (ownShare m)) x).2
  | 0, x, a, b, _, h1, h2, h3 => ⟨h1, h2, h3⟩
  | i + 1, x, a, b, hi, h1, h2, h3 => by
    have hg : l[i]? = some l[i] := List.getElem?_eq_getElem (by omega)
    obtain ⟨k1, k2, k3⟩ := fold_single hm i x a b (by omega) h1 h2 h3
    obtain ⟨o1, o2, o3⟩ := own_bd (hm _ (List.getElem_mem (l := l) (n := i) (by omega))).1 (hm _ (List.getElem_mem (l := l) (n := i) (by omega))).2
    rw [take_push hg, List.foldl_append]
    obtain ⟨q1, q2, q3⟩ := times_bd k1 k2 k3 o1 o2 o3
    refine ⟨Nat.lt_of_lt_of_le q1 (Nat.pow_le_pow_right (by decide) (by omega)), Nat.lt_of_lt_of_le q2 (Nat.pow_le_pow_right (by decide) (by omega)), q3⟩
theorem Good.toNat {l : LI} (h : Good l) : ∃ t : Nat, l.sum = (t : Int) ∧ 1 ≤ t ∧ t ≤ 24 ∧ l.length ≤ t ∧ 1 ≤ l.length := by
  obtain ⟨t, h1, h2, q⟩ := h
  have h3 := q.len
  have h4 : l ≠ [] := Good.ne ⟨t, h1, h2, q⟩
  have := List.length_pos_iff.mpr h4
  exact ⟨t, q.sum, h1, h2, h3, by omega⟩
theorem single0_bd {l : LI} (h : Good l) : (singleTop l).natAbs < 2 ^ 430 ∧ (single0 l).1.natAbs < 2 ^ 540 ∧ (single0 l).2.natAbs < 2 ^ 20 ∧ 0 < (single0 l).2 := by
  obtain ⟨t, e, h1, h2, h3, h4⟩ := h.toNat
  unfold single0 singleTop
  rw [e, Int.toNat_natCast]
  have f1 := Nat.lt_of_lt_of_le (fac_lt2 (t + l.length - 2) (by omega)) (Nat.pow_le_pow_right (by decide) (show 6 * (t + l.length - 2) + 1 ≤ 280 by omega))
  have f2 := Nat.lt_of_lt_of_le (fac_lt2 t (by omega)) (Nat.pow_le_pow_right (by decide) (show 6 * t + 1 ≤ 146 by omega))
  have f3 := wide_lt f1 f2
  have p1 := Nat.lt_of_lt_of_le (pow_lt (m := (t : Int)) (by omega) (l.length - 3)) (Nat.pow_le_pow_right (by decide) (show 5 * (l.length - 3) + 1 ≤ 106 by omega))
  have p2 := Nat.lt_of_lt_of_le (pow_lt (m := (t : Int)) (by omega) (3 - l.length)) (Nat.pow_le_pow_right (by decide) (show 5 * (3 - l.length) + 1 ≤ 20 by omega))
  obtain ⟨a, b, c⟩ := frac_bd (a := facI (t + l.length - 2) * facI t * (t : Int) ^ (l.length - 3)) (b := (t : Int) ^ (3 - l.length)) (Int.pow_pos (by omega))
  exact ⟨Nat.lt_of_lt_of_le f3 (Nat.pow_le_pow_right (by decide) (by omega)), Nat.lt_of_le_of_lt a (Nat.lt_of_lt_of_le (wide_lt f3 p1) (Nat.pow_le_pow_right (by decide) (by omega))), Nat.lt_of_le_of_lt b p2, c⟩
theorem comb2_bd : ∀ m : Nat, m ≤ 24 → (PySem.W.mcComb (2 * (m : Int)) (m : Int)).natAbs < 2 ^ 50 := by decide +kernel
def spSingle : Sp := fun vs H Q _ => ∃ v l, vs = [v] ∧ TR H v l ∧ Good l ∧ ∀ p H', Same H H' → H' p = some (fracT (singleM l)) → Q (.ref p) H'
def spRising : Sp := fun vs H Q _ => ∃ v l, vs = [v] ∧ TR H v l ∧ Good l ∧ ∀ p H', Same H H' → H' p = some (fracT (risingM l)) → Q (.ref p) H'
end K53
/-! B12: what the law's own defs promise. -/
namespace K53
open PySem PySem.Spec PyProof.Rows L2
theorem cr_int {X : Cx} : CallR X (.type "int") (fun xs H Q => ∃ i, xs = [.int i] ∧ Q (.int i) H) := fun pins s σ H xs us Q I r h => call_int1 pins s σ H xs us Q I r (.inl h)
theorem cr_intb {X : Cx} : CallR X (.type "int") (fun xs H Q => ∃ k, xs = [.bl k] ∧ Q (.int (if k then 1 else 0)) H) := fun pins s σ H xs us Q I r h => call_int1 pins s σ H xs us Q I r (.inr h)
def DiceAt (H : Hp) (p : Addr) : Prop := ∃ a b c : Int, H p = some (.lst [.int a, .int b, .int c])
def spDice (K : PySem.W.Frag) : Sp := fun vs H Q _ => ∃ (p : Addr) (ns : List Int) (i : Nat), vs = [.ref p, .int (i : Nat)] ∧ SqL K H p (ns.map V.int) ∧ i ≤ 1000 ∧ ∀ r H', Same H H' → H r = none → DiceAt H' r → Q (.ref r) H'
def spRoll : Sp := fun vs H Q _ => ∃ (p : Addr) (t : Nat), vs = [.ref p, .int (t : Nat)] ∧ DiceAt H p ∧ 1 ≤ t ∧ t ≤ 1000 ∧ ∀ (r : Nat) H', r < t → DiceAt H' p → SameX p H H' → Q (.int (r : Nat)) H'
def spPick : Sp := fun vs H Q _ => ∃ (p q : Addr) (ns : List Int), vs = [.ref p, .ref q] ∧ DiceAt H p ∧ q ≠ p ∧ H q = some (.lst (ns.map V.int)) ∧ ns ≠ [] ∧ ns.length ≤ 100 ∧ ∀ (r : Int) H', r ∈ ns → DiceAt H' p → SameX p H H' → Q (.int r) H'
def spGcd : Sp := fun vs H Q _ => ∃ a b : Int, vs = [.int a, .int b] ∧ Q (.int (gcdI a b)) H
def binM (a : Int) : Nat → Int
  | 0 => 1
  | i + 1 => binM a i * (a - (0 + (i : Int))) / ((0 + (i : Int)) + 1)
theorem bin_ok : ∀ m : Nat, m ≤ 24 → binM (2 * (m : Int)) m = PySem.W.mcComb (2 * (m : Int)) (m : Int) ∧ ∀ i : Nat, i ≤ m → (binM (2 * (m : Int)) i).natAbs < 2 ^ 60 := by decide +kernel
def spBinom : Sp := fun vs H Q _ => ∃ m : Nat, vs = [.int (2 * (m : Int)), .int (m : Nat)] ∧ m ≤ 24 ∧ Q (.int (PySem.W.mcComb (2 * (m : Int)) (m : Int))) H
def spLotOf : Sp := fun vs H Q _ => ∃ (p : Addr) (ns : LI), vs = [.ref p] ∧ H p = some (.lst (ns.map V.int)) ∧ ns.length < 64 ∧ ∀ v H', Same H H' → TB H' v (isort ns).reverse → Q v H'
def spDrawn : Sp := fun vs H Q _ => ∃ (p : Addr) (t : Nat), vs = [.ref p, .int (t : Nat)] ∧ DiceAt H p ∧ 1 ≤ t ∧ t ≤ 24 ∧ ∀ v l H', DiceAt H' p → SameX p H H' → TB H' v l → Lot t l → Q v H'
def spOther : Sp := fun vs H Q _ => ∃ (p : Addr) (v : V) (l : LI) (t k : Nat), vs = [.ref p, v, .int (k : Nat)] ∧ DiceAt H p ∧ TR H v l ∧ l.sum = (t : Int) ∧ 1 ≤ t ∧ t ≤ 24 ∧ 1 ≤ k ∧ k ≤ 30 ∧ ∀ u m H', DiceAt H' p → SameX p H H' → TB H' u m → Lot t m → m.length ≤ k → Q u H'
theorem isort_lot {ns : LI} {t : Nat} (hs : ns.sum = (t : Int)) (hp : ∀ m ∈ ns, 1 ≤ m) : Lot t (isort ns).reverse := by
  have hperm := isort_perm ns
  refine ⟨?_, fun m hm => hp m (hperm.mem_iff.mp (List.mem_reverse.mp hm)), ?_⟩
  · have : ∀ {a b : LI}, a.Perm b → a.sum = b.sum := fun h => by
      induction h with
      | nil => rfl
      | cons x _ ih => rw [List.sum_cons, List.sum_cons, ih]
      | swap x y l => rw [List.sum_cons, List.sum_cons, List.sum_cons, List.sum_cons]; omega
      | trans _ _ h1 h2 => exact h1.trans h2
    rw [← hs, this ((List.reverse_perm _).trans hperm)]
  · rw [List.pairwise_reverse]
    exact isort_sorted ns
theorem TB.monoX {p : Addr} {H H' : Hp} {v : V} {l : LI} (h : TB H v l) (d : DiceAt H p) (s : SameX p H H') : TB H' v l := by
  obtain ⟨a, e, b⟩ := h
  obtain ⟨x, y, z, hd⟩ := d
  exact ⟨a, e, Bare.keepX b hd s⟩
theorem TR.monoX {p : Addr} {H H' : Hp} {v : V} {l : LI} (h : TR H v l) (d : DiceAt H p) (s : SameX p H H') : TR H' v l := by
  obtain ⟨a, e, b⟩ := h
  obtain ⟨x, y, z, hd⟩ := d
  refine ⟨a, e, ?_⟩
  rcases b with b | ⟨o, b⟩
  · exact .inl (s _ _ (ne_of b hd (by intro z; cases z)) b)
  · exact .inr ⟨o, s _ _ (ne_of b hd (by intro z; cases z)) b⟩
theorem DiceAt.same {p : Addr} {H H' : Hp} (d : DiceAt H p) (s : Same H H') : DiceAt H' p := by
  obtain ⟨a, b, c, h⟩ := d
  exact ⟨a, b, c, s _ _ h⟩
theorem SqL.same {K : PySem.W.Frag} {H H' : Hp} {a : Addr} {xs : List V} (s : Same H H') (h : SqL K H a xs) : SqL K H' a xs := by
  rcases h with h | h
  · exact .inl (Rd.same s h)
  · exact .inr h
def spLaw (K : PySem.W.Frag) : Sp := fun vs H Q _ => ∃ (a : Addr) (ns : List Int), vs = [.ref a] ∧ SqL K H a (ns.map V.int) ∧ ns.length ≤ 63 ∧ ∀ H', Q (.bl true) H'
theorem SqL.rd {K : PySem.W.Frag} {H : Hp} {a : Addr} {xs : List V} (h : Rd H a (.lst xs)) : SqL K H a xs := .inl h
end K53
/-! B13: promises of the law's own checks. -/
namespace K53
open PySem PySem.Spec PyProof.Rows L2
def spLSingle : Sp := fun vs H Q _ => ∃ v l, ∃ b : Bool, vs = [v, .str (wordS b)] ∧ TR H v l ∧ Good l ∧ ∀ p H', Same H H' → H' p = some (fracT (if b then singleM l else risingM l)) → Q (.ref p) H'
def spRight : Sp := fun vs H Q _ => ∃ p : Addr, vs = [.ref p] ∧ DiceAt H p ∧ ∀ H', DiceAt H' p → SameX p H H' → Q (.bl true) H'
theorem gcdI_one (x : Int) : gcdI x 1 = 1 := by
  unfold gcdI
  simp
theorem frac_one (x : Int) : frac x 1 = (x, 1) := by
  unfold frac
  rw [gcdI_one]
  simp
theorem times_one (x y : Int) : times (x, 1) (y, 1) = (x * y, 1) := by
  unfold times
  simp only
  rw [Int.mul_one, frac_one]
theorem ap_orV {ta tb : TE} {σ : L2.St} {H : Hp} {Q : VK} : tOrV ta tb σ H Q = ta σ H fun x H1 => ∃ c, x = .bl c ∧ if c = true then Q (.bl true) H1 else tb σ H1 Q := rfl
theorem r_mulB {K : PySem.W.Frag} {x y : V} {H : Hp} {Q : VK} : rMulB K x y H Q = ∃ (l : Addr) (k : Int) (xs : List V), x = .ref l ∧ y = .int k ∧ SqT K H l xs ∧ xs ≠ [] ∧ 1 ≤ k ∧ k ≤ 1000 ∧ xs.length ≤ 1000 ∧
  (k = 1 → Q (.ref l) H) ∧ (k ≠ 1 → NewB Q H (List.replicate k.toNat xs).flatten) := rfl
end K53
/-! B14: what the finite checks say (proved in F files). -/
namespace K53
open PySem PySem.Spec PyProof.Rows L2
def OkG (t : Nat) (l m : LI) (k : Nat) : Prop :=
  (((k : Int) + 2 - l.length - m.length) % 2 = 0 ∧ 0 ≤ (k : Int) + 2 - l.length - m.length → 0 < (linkNum true k l m).1 ∨ t = 1) ∧
  (¬ (((k : Int) + 2 - l.length - m.length) % 2 = 0 ∧ 0 ≤ (k : Int) + 2 - l.length - m.length) → linkNum true k l m = (0, 1) ∧ linkNum false k l m = (0, 1))
def FactG : Prop := ∀ (t : Nat) (l m : LI), 1 ≤ t → t ≤ 7 → Lot t l → Lot t m → l.length ≤ 5 → m.length ≤ 5 → ∀ k, k ≤ 8 → OkG t l m k
def FactO : Prop := ∀ (t : Nat) (l : LI), 1 ≤ t → t ≤ 6 → Lot t l → l.length ≤ 10 - t → linkNum true (t + l.length - 2) l (List.replicate t 1) = singleM l ∧ linkNum false (t + l.length - 2) l (List.replicate t 1) = risingM l
end K53
namespace K53
open PySem PySem.Spec PyProof.Rows L2
local macro_rules | `(tactic| walk_at "rd") => `(tactic| simp only [ap_seq, ap_next, ap_drop, ap_ret, ap_retN, ap_ifS, ap_asg, ap_par, ap_par3, ap_aug, ap_nm, ap_test, ap_tB, ap_and, ap_or, ap_not, ap_if, ap_andV, ap_notV, ap_op, ap_un, ap_c, ap_var, ap_nil, ap_cons, ap_tup, ap_lst, ap_cl, ap_cb, ap_bm, ap_bm0, ap_sl, ap_nopart, ap_part, ap_never, ap_chain, ap_fld, ap_gtup, ap_gcons, ap_gnil, ap_yes, ap_revL, ap_star,
  r_I, r_I0, r_U, r_eq, r_ne, r_isi, r_ixT, r_ixL, r_gcd, r_comb, r_sumT, r_sum, r_app, ap_dcT, ap_dispT, ap_dnewT, ap_dget, ap_dget2, ap_dput, w_itemsT, w_keys, r_rep, r_sorted, r_slL, r_in, ap_lc2, w_enumT, ap_for, ap_lc, w_tup, w_list, w_r1, w_r2, w_enum, w_zip, cx_K, cx_Kn, wipe,
  L2.start, List.length_cons, List.length_nil, List.map_cons, List.map_nil, List.cons_append, List.nil_append, List.replicate, Nat.zero_add, Nat.reduceAdd, Nat.reduceSub, List.set_cons_zero, List.set_cons_succ,
  List.getElem?_cons_zero, List.getElem?_cons_succ, Option.some.injEq, V.int.injEq, V.bl.injEq, V.str.injEq, V.ref.injEq, exists_eq_left, exists_eq_left', List.cons.injEq, and_true, true_and, and_assoc, scal, exists_and_left, decide_eq_true_eq, bne_iff_ne, Bool.not_eq_true', decide_eq_false_iff_not, if_true, if_false, Bool.false_eq_true, Bool.true_eq_false, if_pos, ite_true, ite_false, Bool.not_true, Bool.not_false])
theorem natAbs_lt_pow {x : Int} {n : Nat} (h0 : 0 ≤ x) (h : x < 2 ^ n) : x.natAbs < 2 ^ n := by
  have : ((x.natAbs : Nat) : Int) < ((2 ^ n : Nat) : Int) := by
    rw [Int.natAbs_of_nonneg h0]
    exact_mod_cast h
  exact_mod_cast this
theorem gcd_pos {a b : Int} (h : 0 < b) : 0 < gcdI a b := by
  unfold gcdI
  have : 0 < Nat.gcd a.natAbs b.natAbs := Nat.gcd_pos_of_pos_right _ (by omega)
  omega
theorem gcd_le {a b : Int} (h : 0 < b) : (gcdI a b).natAbs ≤ b.natAbs := by
  unfold gcdI
  have : Nat.gcd a.natAbs b.natAbs ≤ b.natAbs := Nat.gcd_le_right _ (by omega)
  omega
theorem gcd_ok {a b c : Int} (h : 0 < b) (hb : b.natAbs < 2 ^ 8000) : CDivW c (gcdI a b) :=
  wide_div (gcd_pos h) (b := 8000) (Nat.lt_of_le_of_lt (gcd_le h) hb) (by decide) (by decide)
section
variable {P : Program} {w : World} {K : PySem.W.Frag} {mg : Str → Option Value} {base : Heap}
theorem ok_is_whole (T : Tx K mg) (D : DefAt K mg "is_whole" s_is_whole) : Cal P w K mg base 1 "is_whole" spWhole := by
  refine cal_of D (fun _ _ _ _ _ _ us hl => match us, hl with | [_], _ => rfl) sc_is_whole (fun vs H Q E h => ?_) fun f cdv A outer s H vs Q E hr h => ?_
  · obtain ⟨i, rfl, q⟩ := h
    rfl
  · obtain ⟨i, rfl, q⟩ := h
    refine ⟨_, (pss_one (ps_ret (pe_and (pe_callB call_isi (by rfl) T.isinstance (by decide +kernel) (pa_cons (pv 0) (pa_cons (pe_bltn (v := .ty "int") (u := .type "int") (by rfl) T.int (by decide +kernel) rfl) pa_nil))) (pe_one (pe_not (pe_callB call_isi (by rfl) T.isinstance (by decide +kernel) (pa_cons (pv 0) (pa_cons (pe_bltn (v := .ty "bool") (u := .type "bool") (by rfl) T.bool (by decide +kernel) rfl) pa_nil)))))))), ?_⟩
    walk_at "rd"
    refine ⟨_, _, ClsV.ty _, TyX.base (TyOf.int _), true, kit_ty (by decide +kernel), ?_⟩
    walk_at "rd"
    exact ⟨_, _, ClsV.ty _, TyX.base (TyOf.int _), false, kit_ty (by decide +kernel), q⟩
theorem ok_is_integer (T : Tx K mg) (c_is_whole : Cal P w K mg base 1 "is_whole" spWhole) (D : DefAt K mg "is_integer" s_is_integer) : Cal P w K mg base 2 "is_integer" spInteger := by
  refine cal_of D (fun _ _ _ _ _ _ us hl => match us, hl with | [_], _ => rfl) sc_is_integer (fun vs H Q E h => ?_) fun f cdv A outer s H vs Q E hr h => ?_
  · obtain ⟨i, rfl, b, q⟩ := h
    rfl
  · obtain ⟨i, rfl, b, q⟩ := h
    refine ⟨_, (pss_one (ps_ret (pe_and (pe_c c_is_whole hr (by decide) (by rfl) (pa_cons (pv 0) pa_nil)) (pe_one (pe_chain op_lt op_lt (pe_un un_neg (pe_k rfl T.BOUND)) (pv 0) (pe_k rfl T.BOUND)))))), ?_⟩
    walk_at "rd"
    refine ⟨i, rfl, true, rfl, ?_⟩
    rw [if_pos rfl, if_pos b.1, decide_eq_true b.2]
    exact q
theorem ok_is_within (c_is_integer : Cal P w K mg base 2 "is_integer" spInteger) (D : DefAt K mg "is_within" s_is_within) : Cal P w K mg base 3 "is_within" spWithin := by
  refine cal_of D (fun _ _ _ _ _ _ us hl => match us, hl with | [_, _, _], _ => rfl) sc_is_within (fun vs H Q E h => ?_) fun f cdv A outer s H vs Q E hr h => ?_
  · obtain ⟨i, a, b, rfl, bd, h1, h2, q⟩ := h
    rfl
  · obtain ⟨i, a, b, rfl, bd, h1, h2, q⟩ := h
    refine ⟨_, (pss_one (ps_ret (pe_and (pe_c c_is_integer hr (by decide) (by rfl) (pa_cons (pv 0) pa_nil)) (pe_one (pe_chain op_le op_le (pv 1) (pv 0) (pv 2)))))), ?_⟩
    walk_at "rd"
    refine ⟨i, rfl, bd, true, rfl, ?_⟩
    rw [if_pos rfl, if_pos h1, decide_eq_true h2]
    exact q
theorem ok_require_within (c_is_within : Cal P w K mg base 3 "is_within" spWithin) (D : DefAt K mg "require_within" s_require_within) : Cal P w K mg base 4 "require_within" spReqWithin := by
  refine cal_of D (fun _ _ _ _ _ _ us hl => match us, hl with | [_, _, _], _ => rfl) sc_require_within (fun vs H Q E h => ?_) fun f cdv A outer s H vs Q E hr h => ?_
  · obtain ⟨i, a, b, rfl, bd, h1, h2, q⟩ := h
    rfl
  · obtain ⟨i, a, b, rfl, bd, h1, h2, q⟩ := h
    refine ⟨_, (pss_one (ps_if (pt_not (pt_val (pe_c c_is_within hr (by decide) (by rfl) (pa_cons (pv 0) (pa_cons (pv 1) (pa_cons (pv 2) pa_nil)))))) pss_never pss_nil)), ?_⟩
    walk_at "rd"
    exact ⟨i, a, b, rfl, bd, h1, h2, true, rfl, q⟩
theorem ok_fraction_in (T : Tx K mg) (D : DefAt K mg "fraction_in" s_fraction_in) : Cal P w K mg base 1 "fraction_in" spFrac := by
  refine cal_of D (fun _ _ _ _ _ _ us hl => match us, hl with | [_, _], _ => rfl) sc_fraction_in (fun vs H Q E h => ?_) fun f cdv A outer s H vs Q E hr h => ?_
  · obtain ⟨a, b, rfl, h1, h2, q⟩ := h
    rfl
  · obtain ⟨a, b, rfl, h1, h2, q⟩ := h
    refine ⟨_, (pss_cons (ps_set (i := 2) sc_fraction_in.nd rfl (Or.inl rfl) (pe_ifExp (pt_cmpR op_gt (pv 1) pe_int (nomark _)) (pe_callBfun cr_gcd (by rfl) T.gcd (pa_cons (pv 0) (pa_cons (pv 1) pa_nil))) (pe_un un_neg (pe_callBfun cr_gcd (by rfl) T.gcd (pa_cons (pv 0) (pa_cons (pv 1) pa_nil))))))
        (pss_one (ps_ret (pe_tup (pa_cons (pe_op op_fdivW (pv 0) (pv 2)) (pa_cons (pe_op op_fdivW (pv 1) (pv 2)) pa_nil)))))), ?_⟩
    walk_at "rd"
    rw [if_pos h1]
    exact ⟨gcd_ok h1 h2, gcd_ok h1 h2, by decide, q⟩
theorem ok_product_in (c_fraction_in : Cal P w K mg base 1 "fraction_in" spFrac) (D : DefAt K mg "product_in" s_product_in) : Cal P w K mg base 2 "product_in" spProd := by
  refine cal_of D (fun _ _ _ _ _ _ us hl => match us, hl with | [_, _], _ => rfl) sc_product_in (fun vs H Q E h => ?_) fun f cdv A outer s H vs Q E hr h => ?_
  · obtain ⟨a, b, x, y, rfl, e1, e2, p1, p2, b1, b2, b3, b4, q⟩ := h
    rfl
  · obtain ⟨a, b, x, y, rfl, e1, e2, p1, p2, b1, b2, b3, b4, q⟩ := h
    refine ⟨_, (pss_one (ps_ret (pe_c c_fraction_in hr (by decide) (by rfl) (pa_cons (pe_op op_mulW (pe_ix ix_tup (pv 0) pe_int (fun _ _ => rfl)) (pe_ix ix_tup (pv 1) pe_int (fun _ _ => rfl))) (pa_cons (pe_op op_mulW (pe_ix ix_tup (pv 0) pe_int (fun _ _ => rfl)) (pe_ix ix_tup (pv 1) pe_int (fun _ _ => rfl))) pa_nil))))), ?_⟩
    walk_at "rd"
    refine ⟨_, SqT.of' e1, _, rfl, _, SqT.of' e2, _, rfl, _, rfl, _, rfl, wide_mul (a := 4000) (b := 4000) b1 b3 (by decide) (by decide) (by decide), _, SqT.of' e1, _, rfl, _, SqT.of' e2, _, rfl, _, rfl, _, rfl, wide_mul (a := 4000) (b := 4000) b2 b4 (by decide) (by decide) (by decide), _, _, rfl, Int.mul_pos p1 p2, ?_, q⟩
    exact wide_lt b2 b4
theorem ok_power_in  (D : DefAt K mg "power_in" s_power_in) : Cal P w K mg base 1 "power_in" spPower := by
  refine cal_of D (fun _ _ _ _ _ _ us hl => match us, hl with | [_, _], _ => rfl) sc_power_in (fun vs H Q E h => ?_) fun f cdv A outer s H vs Q E hr h => ?_
  · obtain ⟨n, k, rfl, h1, h2, q⟩ := h
    rfl
  · obtain ⟨n, k, rfl, h1, h2, q⟩ := h
    refine ⟨_, (pss_cons (ps_par3 (i := 2) (j := 3) (l := 4) rfl sc_power_in.nd rfl rfl rfl (by decide) (by decide) (by decide) rfl rfl rfl (pa_cons pe_int (pa_cons (pv 0) (pa_cons (pv 1) pa_nil))) (by rfl))
        (pss_cons (ps_while PassesOwn.never (pt_cmpR op_gt (pv 4) pe_int (nomark _)) (pss_cons (ps_if (pt_cmpR op_eq (pe_op op_mod (pv 4) pe_int) pe_int (nomark _)) (pss_one (ps_aug (i := 2) sc_power_in.nd rfl (.inl rfl) (pv 3) ip_mulW)) pss_nil)
        (pss_one (ps_par (i := 3) (j := 4) rfl sc_power_in.nd rfl rfl (by decide) rfl rfl (pa_cons (pe_op op_mulW (pv 3) (pv 3)) (pa_cons (pe_op op_fdiv (pv 4) pe_int) pa_nil)) (by rfl)))))
        (pss_one (ps_ret (pv 2))))), ?_⟩
    walk_at "rd"
    have nl : ∀ j, j ≤ 60 → (n ^ j).natAbs < 2 ^ (64 * j + 1) := fun j hj => by
      rw [Int.natAbs_pow]
      have := Nat.pow_le_pow_left (Nat.le_of_lt h2) j
      rw [← Nat.pow_mul] at this
      exact Nat.lt_of_le_of_lt this (Nat.pow_lt_pow_right (by decide) (by omega))
    have p64 : ∀ i, 2 ^ i ≤ 60 → (n ^ (2 ^ i)).natAbs < 2 ^ 4000 := fun i hi => Nat.lt_of_lt_of_le (nl _ hi) (Nat.pow_le_pow_right (by decide) (by omega))
    refine ⟨fun μ σ H' => H' = H ∧ ∃ i : Nat, σ = [some (.int n), some (.int k), some (.int (n ^ (k % 2 ^ i))), some (.int (n ^ (2 ^ i))), some (.int ((k / 2 ^ i : Nat) : Int))] ∧ μ = k / 2 ^ i, ⟨k, rfl, 0, ?_, ?_⟩, ?_⟩
    · simp [Nat.mod_one, Int.pow_one]
    · simp
    · rintro μ σ H' ⟨rfl, i, rfl, rfl⟩
      walk_at "rd"
      by_cases hp : 0 < k / 2 ^ i
      · have hle : 2 ^ i ≤ k := by
          rcases Nat.lt_or_ge k (2 ^ i) with h | h
          · rw [Nat.div_eq_of_lt h] at hp; omega
          · exact h
        have hs : (k : Nat) / 2 ^ (i + 1) = k / 2 ^ i / 2 := by rw [Nat.pow_succ, Nat.div_div_eq_div_mul]
        have hm : k % 2 ^ (i + 1) = k % 2 ^ i + 2 ^ i * (k / 2 ^ i % 2) := by rw [Nat.pow_succ, Nat.mod_mul]
        have mm : CMulW (n ^ 2 ^ i) (n ^ 2 ^ i) := wide_mul (p64 i (by omega)) (p64 i (by omega)) (by decide) (by decide) (by decide)
        have fb : (n ^ (k % 2 ^ i)).natAbs < 2 ^ 4000 := Nat.lt_of_lt_of_le (nl _ (by have := Nat.mod_le k (2 ^ i); omega)) (Nat.pow_le_pow_right (by decide) (by have := Nat.mod_le k (2 ^ i); omega))
        have dbl : n ^ 2 ^ i * n ^ 2 ^ i = n ^ 2 ^ (i + 1) := by rw [← Int.pow_add, Nat.pow_succ, Nat.mul_two]
        have hd : ((k / 2 ^ i : Nat) : Int) / 2 = ((k / 2 ^ (i + 1) : Nat) : Int) := by rw [hs]; omega
        rw [if_pos (by omega)]
        refine ⟨fun σ H2 => H2 = H' ∧ σ = [some (.int n), some (.int k), some (.int (n ^ (k % 2 ^ (i + 1)))), some (.int (n ^ (2 ^ (i + 1)))), some (.int ((k / 2 ^ (i + 1) : Nat) : Int))], ?_, by decide, ?_⟩
        · rintro σ' H2 ⟨rfl, rfl⟩
          exact ⟨k / 2 ^ (i + 1), by rw [hs]; omega, rfl, i + 1, rfl, rfl⟩
        · split
          · rename_i h
            have e1 : k / 2 ^ i % 2 = 1 := by omega
            refine ⟨wide_mul fb (p64 i (by omega)) (by decide) (by decide) (by decide), mm, ⟨by decide, by decide⟩, rfl, ?_⟩
            rw [dbl, hd, hm, e1, ← Int.pow_add, Nat.mul_one]
          · rename_i h
            have e1 : k / 2 ^ i % 2 = 0 := by omega
            refine ⟨mm, ⟨by decide, by decide⟩, rfl, ?_⟩
            rw [dbl, hd, hm, e1]
            rfl
      · rw [if_neg (by omega)]
        have : k < 2 ^ i := by
          rcases Nat.lt_or_ge k (2 ^ i) with h | h
          · exact h
          · have := Nat.div_pos h (Nat.two_pow_pos i); omega
        rw [Nat.mod_eq_of_lt this]
        exact q
end
end K53
namespace K53
open PySem PySem.Spec PyProof.Rows L2
local macro_rules | `(tactic| walk_at "rd") => `(tactic| simp only [ap_seq, ap_next, ap_drop, ap_ret, ap_retN, ap_ifS, ap_asg, ap_par, ap_par3, ap_aug, ap_nm, ap_test, ap_tB, ap_and, ap_or, ap_not, ap_if, ap_andV, ap_notV, ap_op, ap_un, ap_c, ap_var, ap_nil, ap_cons, ap_tup, ap_lst, ap_cl, ap_cb, ap_bm, ap_bm0, ap_sl, ap_nopart, ap_part, ap_never, ap_chain, ap_fld, ap_gtup, ap_gcons, ap_gnil, ap_yes, ap_revL, ap_star,
  r_I, r_I0, r_U, r_eq, r_ne, r_isi, r_ixT, r_ixL, r_gcd, r_comb, r_sumT, r_sum, r_app, ap_dcT, ap_dispT, ap_dnewT, ap_dget, ap_dget2, ap_dput, w_itemsT, w_keys, r_rep, r_sorted, r_slL, r_in, ap_lc2, w_enumT, ap_for, ap_lc, w_tup, w_list, w_r1, w_r2, w_enum, w_zip, cx_K, cx_Kn, wipe,
  L2.start, List.length_cons, List.length_nil, List.map_cons, List.map_nil, List.cons_append, List.nil_append, List.replicate, Nat.zero_add, Nat.reduceAdd, Nat.reduceSub, List.set_cons_zero, List.set_cons_succ,
  List.getElem?_cons_zero, List.getElem?_cons_succ, Option.some.injEq, V.int.injEq, V.bl.injEq, V.str.injEq, V.ref.injEq, exists_eq_left, exists_eq_left', List.cons.injEq, and_true, true_and, and_assoc, scal, exists_and_left, decide_eq_true_eq, bne_iff_ne, Bool.not_eq_true', decide_eq_false_iff_not, if_true, if_false, Bool.false_eq_true, Bool.true_eq_false, if_pos, ite_true, ite_false, Bool.not_true, Bool.not_false])
theorem walk_zipT {K : PySem.W.Frag} {a b : Addr} {xs ys : List V} {n : Nat} (hn : n = min xs.length ys.length) : Walk (RZ.ItzT K a b) n (fun H => SqT K H a xs ∧ SqT K H b ys) (YPair (fun i => xs[i]?) (fun i => ys[i]?)) := by
  subst hn
  refine ⟨fun i H hi q => ?_, fun H q => ⟨xs, ys, q.1, q.2, by omega⟩, fun i H v H' _ q y => ?_⟩
  · have h1 : i < xs.length := by omega
    have h2 : i < ys.length := by omega
    exact ⟨xs, ys, xs[i], ys[i], q.1, q.2, by simp [h1], by simp [h2]⟩
  · obtain ⟨T, x, z, h1, h2, h3, h4, h5⟩ := y
    exact ⟨T, x, z, h1, h2, h3, h4 xs q.1, h5 ys q.2⟩
section
variable {P : Program} {w : World} {K : PySem.W.Frag} {mg : Str → Option Value} {base : Heap}
theorem ok_lots (T : Tx K mg) (c_require_within : Cal P w K mg base 4 "require_within" spReqWithin) (c_lots_in : Cal P w K mg base 1 "lots_in" spLotsIn) (D : DefAt K mg "lots" s_lots) : Cal P w K mg base 5 "lots" spLots := by
  refine cal_of D (fun _ _ _ _ _ _ us hl => match us, hl with | [_], _ => rfl) sc_lots (fun vs H Q E h => ?_) fun f cdv A outer s H vs Q E hr h => ?_
  · obtain ⟨n, rfl, h, q⟩ := h
    rfl
  · obtain ⟨n, rfl, h, q⟩ := h
    refine ⟨_, (pss_cons (ps_expr (pe_c c_require_within hr (by decide) (by rfl) (pa_cons (pv 0) (pa_cons pe_int (pa_cons (pe_k rfl T.MAX_SUM) pa_nil)))))
        (pss_one (ps_ret (pe_callTy call_tuple_of (by rfl) T.tuple (by decide +kernel) (pa_cons (pe_c c_lots_in hr (by decide) (by rfl) (pa_cons (pv 0) pa_nil)) pa_nil))))), ?_⟩
    walk_at "rd"
    refine ⟨_, _, _, rfl, inside ⟨by omega, by omega⟩, by omega, by omega, n, rfl, h, fun p H1 xs s1 e1 r1 => ⟨p, rfl, xs, .inl ⟨SqL.of' e1, fun l hl => ?_⟩⟩⟩
    exact q l _ xs (Same.upd s1 hl) upd_same (paired_mono r1 fun v d t => t.mono (same_upd hl))
theorem ok_is_lot (T : Tx K mg) (c_is_within : Cal P w K mg base 3 "is_within" spWithin) (D : DefAt K mg "is_lot" s_is_lot) : Cal P w K mg base 4 "is_lot" spLotTrue := by
  refine cal_of D (fun _ _ _ _ _ _ us hl => match us, hl with | [_], _ => rfl) sc_is_lot (fun vs H Q E h => ?_) fun f cdv A outer s H vs Q E hr h => ?_
  · obtain ⟨v, l, rfl, ⟨a, rfl, e⟩, g, q⟩ := h
    rfl
  · obtain ⟨v, l, rfl, ⟨a, rfl, e⟩, g, q⟩ := h
    refine ⟨_, (pss_cons (ps_if (PW.pt (pw_or (pt_not (pt_val (pe_callB call_isi (by rfl) T.isinstance (by decide +kernel) (pa_cons (pv 0) (pa_cons (pe_bltn (v := .ty "tuple") (u := .type "tuple") (by rfl) T.tuple (by decide +kernel) rfl) pa_nil))))) (pw_or1 (pt_not (pt_val (pe_callB (cr_all rfl) (by rfl) T.all (by decide +kernel) (pa_cons (pe_lc (own := [("member", 3)]) (g := gName 3) (tt := tYes) rfl sc_is_lot.nd (pi_tup (pv 0)) (blkOk_by (N := ["value", "one", "other", "member"]) (sc := defScope s_is_lot) (by decide +kernel)) (fun _ _ _ _ _ => (pg_name (i := 3) sc_is_lot.nd rfl (Or.inl rfl))) (fun _ _ _ _ _ => pts_nil) (fun _ _ _ _ _ => (pe_c c_is_within hr (by decide) (by rfl) (pa_cons (pv 3) (pa_cons pe_int (pa_cons (pe_k rfl T.MAX_SUM) pa_nil)))))) pa_nil))))))) (pss_one (ps_ret pe_bl)) pss_nil)
        (pss_one (ps_ret (pe_and (pe_cmpR op_le (pe_callB (cr_sumT rfl) (by rfl) T.sum (by decide +kernel) (pa_cons (pv 0) pa_nil)) (pe_k rfl T.MAX_SUM) (nomark _)) (pe_one (pe_callB (cr_all rfl) (by rfl) T.all (by decide +kernel) (pa_cons (pe_lc (own := [("one", 1), ("other", 2)]) (g := gTup K 2 (gCons (gName 1) (gCons (gName 2) gNil))) (tt := tYes) rfl sc_is_lot.nd (RZ.pi_zipA (by rfl) T.zip (pa_cons (pv 0) (pa_cons (pe_slice sl_tupA (pv 0) (po_some pe_int) po_none) pa_nil))) (blkOk_by (N := ["value", "one", "other", "member"]) (sc := defScope s_is_lot) (by decide +kernel)) (fun _ _ _ _ _ => (pg_tup (by rfl) (pgs_cons (pg_name (i := 1) sc_is_lot.nd rfl (Or.inl rfl)) (pgs_cons (pg_name (i := 2) sc_is_lot.nd rfl (Or.inl rfl)) pgs_nil)))) (fun _ _ _ _ _ => pts_nil) (fun _ _ _ _ _ => (pe_cmpR op_ge (pv 1) (pv 2) (nomark _)))) pa_nil))))))), ?_⟩
    walk_at "rd"
    refine ⟨_, _, ClsV.ty _, ty_rd e, true, kit_ty (by decide +kernel), ?_⟩
    rw [if_neg (by decide)]
    refine ⟨⟨_, SqT.rd e⟩, fun D hD => lc_it walk_tup (Mk1 (fun _ v (d : Bool) => v = .bl d) (fun i => List.replicate i true) H D) (Mk1.zero rfl hD) (fun i H2 _ p => SqT.rd (Rd.same p.same e)) ?_ ?_⟩
    · rintro i x H2 H3 hi p ⟨rfl, hx⟩
      obtain ⟨m, hm, rfl, hmem⟩ := at_ints hx
      walk_at "rd"
      have := g.mem hmem
      refine ⟨m, 1, 24, rfl, inside ⟨by omega, by omega⟩, this.1, this.2, p.push keeps_bl hD Same.refl rfl (by rw [List.replicate_succ']) ?_⟩
      simp at hi
      have := g.len
      rw [List.length_replicate]
      exact small1000 (by omega)
    · intro H2 p
      refine ⟨D, _, rfl, SqL.of' p.bls, true, by rw [all_rep], ?_⟩
      rw [if_neg (by decide)]
      have e2 := Rd.same p.same e
      refine ⟨l, SqT.rd e2, ?_⟩
      rw [if_pos g.sum.2]
      have hlen : 0 < l.length := List.length_pos_iff.mpr g.ne
      refine ⟨a, _, rfl, SqT.rd e2, fun hw => ?_, fun _ b hb => ?_⟩
      · rw [six1 (by simpa using hlen)] at hw
        exact absurd hw.1 (by decide)
      rw [cut1]
      have e3 : Rd (upd H2 b (.tup (l.tail.map V.int))) a (.tup (l.map V.int)) := Rd.same (same_upd hb) e2
      refine ⟨b, rfl, _, _, .inr ⟨SqT.rd e3, SqT.of' upd_same, fun D2 hD2 => lc_it (walk_zipT rfl) (Mk1 (fun _ v (d : Bool) => v = .bl d) (fun i => List.replicate i true) _ D2) (Mk1.zero rfl hD2) (fun i H3 _ p => ⟨SqT.rd (Rd.same p.same e3), SqT.of' (p.same _ _ upd_same)⟩) ?_ ?_⟩⟩
      · rintro i x H3 H4 hi p3 ⟨T, x1, x2, rfl, hT, rfl, hx1, hx2⟩
        obtain ⟨m1, hm1, rfl, hmem1⟩ := at_ints hx1
        obtain ⟨m2, hm2, rfl, hmem2⟩ := at_ints hx2
        walk_at "rd"
        have hge : m2 ≤ m1 := by
          have hd := List.pairwise_iff_getElem.mp g.desc
          rw [List.getElem?_tail] at hm2
          obtain ⟨h1, e1⟩ := List.getElem?_eq_some_iff.mp hm1
          obtain ⟨h2, e2⟩ := List.getElem?_eq_some_iff.mp hm2
          have := hd i (i + 1) h1 h2 (by omega)
          rw [e1, e2] at this
          exact this
        refine ⟨_, SqT.of' upd_same, rfl, _, _, rfl, _, _, rfl, rfl, _, rfl, _, rfl, ?_⟩
        rw [decide_eq_true hge]
        refine p3.push keeps_bl hD2 (same_upd hT) rfl (by rw [List.replicate_succ']) ?_
        have := g.len
        simp at hi
        rw [List.length_replicate]
        exact small1000 (by omega)
      · intro H3 p3
        exact ⟨D2, _, rfl, SqL.of' p3.bls, by rw [all_rep]; exact q _ (Same.trans (Same.trans p.same (same_upd hb)) p3.same)⟩
theorem ok_is_some_lot (c_is_lot : Cal P w K mg base 4 "is_lot" spLotTrue) (D : DefAt K mg "is_some_lot" s_is_some_lot) : Cal P w K mg base 5 "is_some_lot" spLotTrue := by
  refine cal_of D (fun _ _ _ _ _ _ us hl => match us, hl with | [_], _ => rfl) sc_is_some_lot (fun vs H Q E h => ?_) fun f cdv A outer s H vs Q E hr h => ?_
  · obtain ⟨v, l, rfl, tl, g, q⟩ := h
    rfl
  · obtain ⟨v, l, rfl, tl, g, q⟩ := h
    refine ⟨_, (pss_one (ps_ret (pe_and (pe_c c_is_lot hr (by decide) (by rfl) (pa_cons (pv 0) pa_nil)) (pe_one (pe_cmpR (op_neD hr.units) (pv 0) (pe_tup pa_nil) (nomark _)))))), ?_⟩
    walk_at "rd"
    refine ⟨v, l, rfl, tl, g, fun H1 s1 => ⟨true, rfl, ?_⟩⟩
    rw [if_pos rfl]
    exact ⟨by decide, fun p hp => neTR ((tl.mono s1).mono (same_upd hp)) TI.nil.r (by rw [decide_eq_false g.ne]; exact q _ (Same.upd s1 hp))⟩
theorem ok_require_some (c_is_some_lot : Cal P w K mg base 5 "is_some_lot" spLotTrue) (D : DefAt K mg "require_some" s_require_some) : Cal P w K mg base 6 "require_some" spReqSome := by
  refine cal_of D (fun _ _ _ _ _ _ us hl => match us, hl with | [_], _ => rfl) sc_require_some (fun vs H Q E h => ?_) fun f cdv A outer s H vs Q E hr h => ?_
  · obtain ⟨v, l, rfl, tl, g, q⟩ := h
    rfl
  · obtain ⟨v, l, rfl, tl, g, q⟩ := h
    refine ⟨_, (pss_one (ps_if (pt_not (pt_val (pe_c c_is_some_lot hr (by decide) (by rfl) (pa_cons (pv 0) pa_nil)))) pss_never pss_nil)), ?_⟩
    walk_at "rd"
    refine ⟨v, l, rfl, tl, g, fun H1 s1 => ⟨true, rfl, ?_⟩⟩
    exact q _ s1
theorem ok_require_both (T : Tx K mg) (c_require_some : Cal P w K mg base 6 "require_some" spReqSome) (D : DefAt K mg "require_both" s_require_both) : Cal P w K mg base 7 "require_both" spReqBoth := by
  refine cal_of D (fun _ _ _ _ _ _ us hl => match us, hl with | [_, _], _ => rfl) sc_require_both (fun vs H Q E h => ?_) fun f cdv A outer s H vs Q E hr h => ?_
  · obtain ⟨v, l, u, m, rfl, ⟨a, rfl, e1⟩, ⟨b, rfl, e2⟩, gl, gm, es, q⟩ := h
    rfl
  · obtain ⟨v, l, u, m, rfl, ⟨a, rfl, e1⟩, ⟨b, rfl, e2⟩, gl, gm, es, q⟩ := h
    refine ⟨_, (pss_cons (ps_expr (pe_c c_require_some hr (by decide) (by rfl) (pa_cons (pv 0) pa_nil)))
        (pss_cons (ps_expr (pe_c c_require_some hr (by decide) (by rfl) (pa_cons (pv 1) pa_nil)))
        (pss_one (ps_if (pt_cmpR op_ne (pe_callB (cr_sumT rfl) (by rfl) T.sum (by decide +kernel) (pa_cons (pv 0) pa_nil)) (pe_callB (cr_sumT rfl) (by rfl) T.sum (by decide +kernel) (pa_cons (pv 1) pa_nil)) (nomark _)) pss_never pss_nil)))), ?_⟩
    walk_at "rd"
    refine ⟨_, l, rfl, ⟨a, rfl, e1⟩, gl, fun H1 s1 => ⟨_, m, rfl, ⟨b, rfl, Rd.same s1 e2⟩, gm, fun H2 s2 => ?_⟩⟩
    walk_at "rd"
    refine ⟨_, SqT.rd (Rd.same s2 (Rd.same s1 e1)), _, SqT.rd (Rd.same s2 (Rd.same s1 e2)), ?_⟩
    rw [if_neg (by simp [es])]
    exact q _ (Same.trans s1 s2)
theorem ok_is_word (T : Tx K mg) (D : DefAt K mg "is_word" s_is_word) : Cal P w K mg base 1 "is_word" spIsWord := by
  refine cal_of D (fun _ _ _ _ _ _ us hl => match us, hl with | [_], _ => rfl) sc_is_word (fun vs H Q E h => ?_) fun f cdv A outer s H vs Q E hr h => ?_
  · obtain ⟨b, rfl, q⟩ := h
    rfl
  · obtain ⟨b, rfl, q⟩ := h
    obtain ⟨wa, hwa, hws⟩ := T.WORDS
    refine ⟨_, (pss_one (ps_ret (pe_and (pe_callB call_isi (by rfl) T.isinstance (by decide +kernel) (pa_cons (pv 0) (pa_cons (pe_bltn (v := .ty "str") (u := .type "str") (by rfl) T.str (by decide +kernel) rfl) pa_nil))) (pe_one (pe_cmpR op_in_seq (pv 0) (pe_glob (v := .ref wa) rfl hwa rfl) (by rfl)))))), ?_⟩
    walk_at "rd"
    refine ⟨_, _, ClsV.ty _, TyX.base (TyOf.str _), true, kit_ty (by decide +kernel), ?_⟩
    rw [if_pos rfl]
    refine ⟨_, .inr (hws H), rfl, rfl, ?_⟩
    cases b with
    | true => exact q
    | false => exact q
theorem ok_require_word (c_is_word : Cal P w K mg base 1 "is_word" spIsWord) (D : DefAt K mg "require_word" s_require_word) : Cal P w K mg base 2 "require_word" spReqWord := by
  refine cal_of D (fun _ _ _ _ _ _ us hl => match us, hl with | [_], _ => rfl) sc_require_word (fun vs H Q E h => ?_) fun f cdv A outer s H vs Q E hr h => ?_
  · obtain ⟨b, rfl, q⟩ := h
    rfl
  · obtain ⟨b, rfl, q⟩ := h
    refine ⟨_, (pss_one (ps_if (pt_not (pt_val (pe_c c_is_word hr (by decide) (by rfl) (pa_cons (pv 0) pa_nil)))) pss_never pss_nil)), ?_⟩
    walk_at "rd"
    exact ⟨b, rfl, true, rfl, q⟩
theorem ok_require_linked (T : Tx K mg) (c_require_both : Cal P w K mg base 7 "require_both" spReqBoth) (c_require_within : Cal P w K mg base 4 "require_within" spReqWithin) (c_require_word : Cal P w K mg base 2 "require_word" spReqWord) (D : DefAt K mg "require_linked" s_require_linked) : Cal P w K mg base 8 "require_linked" spReqLinked := by
  refine cal_of D (fun _ _ _ _ _ _ us hl => match us, hl with | [_, _, _, _], _ => rfl) sc_require_linked (fun vs H Q E h => ?_) fun f cdv A outer s H vs Q E hr h => ?_
  · obtain ⟨v, l, u, m, k, b, rfl, tl, tm, gl, gm, es, h14, hk, hlen, q⟩ := h
    rfl
  · obtain ⟨v, l, u, m, k, b, rfl, tl, tm, gl, gm, es, h14, hk, hlen, q⟩ := h
    refine ⟨_, (pss_cons (ps_expr (pe_c c_require_both hr (by decide) (by rfl) (pa_cons (pv 0) (pa_cons (pv 1) pa_nil))))
        (pss_cons (ps_expr (pe_c c_require_within hr (by decide) (by rfl) (pa_cons (pv 2) (pa_cons pe_int (pa_cons (pe_k rfl T.MOST_LINKED) pa_nil)))))
        (pss_cons (ps_expr (pe_c c_require_word hr (by decide) (by rfl) (pa_cons (pv 3) pa_nil)))
        (pss_cons (ps_if (pt_cmpR op_gt (pe_callB (cr_sumT rfl) (by rfl) T.sum (by decide +kernel) (pa_cons (pv 0) pa_nil)) (pe_k rfl T.MAX_LINKED) (nomark _)) pss_never pss_nil)
        (pss_one (ps_if (pt_cmpR op_gt (pe_op op_add (pe_callB call_len (by rfl) T.len (by decide +kernel) (pa_cons (pv 0) pa_nil)) (pe_callB call_len (by rfl) T.len (by decide +kernel) (pa_cons (pv 1) pa_nil))) (pe_k rfl T.MAX_ENDS) (nomark _)) pss_never pss_nil)))))), ?_⟩
    walk_at "rd"
    refine ⟨v, l, u, m, rfl, tl, tm, gl, gm, es, fun H1 s1 => ⟨_, _, _, rfl, inside ⟨by omega, by omega⟩, by omega, by omega, b, rfl, ?_⟩⟩
    obtain ⟨a, rfl, e1⟩ := tl.mono s1
    walk_at "rd"
    refine ⟨_, SqT.rd e1, ?_⟩
    rw [if_neg (by omega)]
    refine ⟨_, lenTR ⟨a, rfl, e1⟩, _, lenTR (tm.mono s1), ?_⟩
    rw [if_neg (by omega)]
    exact q _ s1
theorem ok_genus_of (T : Tx K mg) (c_require_both : Cal P w K mg base 7 "require_both" spReqBoth) (c_require_within : Cal P w K mg base 4 "require_within" spReqWithin) (D : DefAt K mg "genus_of" s_genus_of) : Cal P w K mg base 8 "genus_of" spGenus := by
  refine cal_of D (fun _ _ _ _ _ _ us hl => match us, hl with | [_, _, _], _ => rfl) sc_genus_of (fun vs H Q E h => ?_) fun f cdv A outer s H vs Q E hr h => ?_
  · obtain ⟨v, l, u, m, k, rfl, tl, tm, gl, gm, es, hk, q⟩ := h
    rfl
  · obtain ⟨v, l, u, m, k, rfl, tl, tm, gl, gm, es, hk, q⟩ := h
    refine ⟨_, (pss_cons (ps_expr (pe_c c_require_both hr (by decide) (by rfl) (pa_cons (pv 0) (pa_cons (pv 1) pa_nil))))
        (pss_cons (ps_expr (pe_c c_require_within hr (by decide) (by rfl) (pa_cons (pv 2) (pa_cons pe_int (pa_cons (pe_k rfl T.MOST_LINKED) pa_nil)))))
        (pss_cons (ps_set (i := 3) sc_genus_of.nd rfl (Or.inl rfl) (pe_op op_sub (pe_op op_sub (pe_op op_add (pv 2) pe_int) (pe_callB call_len (by rfl) T.len (by decide +kernel) (pa_cons (pv 0) pa_nil))) (pe_callB call_len (by rfl) T.len (by decide +kernel) (pa_cons (pv 1) pa_nil))))
        (pss_one (ps_ret (pe_ifExp (pt_cmpR op_eq (pe_op op_mod (pv 3) pe_int) pe_int (nomark _)) (pe_op op_fdiv (pv 3) pe_int) pe_non)))))), ?_⟩
    walk_at "rd"
    refine ⟨v, l, u, m, rfl, tl, tm, gl, gm, es, fun H1 s1 => ⟨_, _, _, rfl, inside ⟨by omega, by omega⟩, by omega, by omega, ?_⟩⟩
    walk_at "rd"
    refine ⟨_, lenTR (tl.mono s1), _, lenTR (tm.mono s1), by decide, ?_⟩
    have := q _ s1
    unfold genusV at this
    split
    · rename_i h
      rw [if_pos h] at this
      exact ⟨⟨by decide, by decide⟩, this⟩
    · rename_i h
      rw [if_neg h] at this
      exact this
theorem ok_swaps_of_genus (T : Tx K mg) (c_require_both : Cal P w K mg base 7 "require_both" spReqBoth) (c_require_within : Cal P w K mg base 4 "require_within" spReqWithin) (D : DefAt K mg "swaps_of_genus" s_swaps_of_genus) : Cal P w K mg base 8 "swaps_of_genus" spSwaps := by
  refine cal_of D (fun _ _ _ _ _ _ us hl => match us, hl with | [_, _, _], _ => rfl) sc_swaps_of_genus (fun vs H Q E h => ?_) fun f cdv A outer s H vs Q E hr h => ?_
  · obtain ⟨v, l, u, m, k, rfl, tl, tm, gl, gm, es, hk, q⟩ := h
    rfl
  · obtain ⟨v, l, u, m, k, rfl, tl, tm, gl, gm, es, hk, q⟩ := h
    refine ⟨_, (pss_cons (ps_expr (pe_c c_require_both hr (by decide) (by rfl) (pa_cons (pv 0) (pa_cons (pv 1) pa_nil))))
        (pss_cons (ps_expr (pe_c c_require_within hr (by decide) (by rfl) (pa_cons (pv 2) (pa_cons pe_int (pa_cons (pe_k rfl T.MOST_GENUS) pa_nil)))))
        (pss_one (ps_ret (pe_op op_add (pe_op op_add (pe_op op_sub (pe_op op_mulW pe_int (pv 2)) pe_int) (pe_callB call_len (by rfl) T.len (by decide +kernel) (pa_cons (pv 0) pa_nil))) (pe_callB call_len (by rfl) T.len (by decide +kernel) (pa_cons (pv 1) pa_nil))))))), ?_⟩
    walk_at "rd"
    refine ⟨v, l, u, m, rfl, tl, tm, gl, gm, es, fun H1 s1 => ⟨_, _, _, rfl, inside ⟨by omega, by omega⟩, by omega, by omega, ?_⟩⟩
    walk_at "rd"
    refine ⟨wide_mul (a := 64) (b := 64) (by decide) (natAbs_lt_pow (by omega) (by omega)) (by decide) (by decide) (by decide), _, lenTR (tl.mono s1), _, lenTR (tm.mono s1), ?_⟩
    exact q _ s1
end
end K53
namespace K53
open PySem PySem.Spec PyProof.Rows L2
local macro_rules | `(tactic| walk_at "rd") => `(tactic| simp only [ap_seq, ap_next, ap_drop, ap_ret, ap_retN, ap_ifS, ap_asg, ap_par, ap_par3, ap_aug, ap_nm, ap_test, ap_tB, ap_and, ap_or, ap_not, ap_if, ap_andV, ap_notV, ap_op, ap_un, ap_c, ap_var, ap_nil, ap_cons, ap_tup, ap_lst, ap_cl, ap_cb, ap_bm, ap_bm0, ap_sl, ap_nopart, ap_part, ap_never, ap_chain, ap_fld, ap_gtup, ap_gcons, ap_gnil, ap_yes, ap_revL, ap_star,
  r_I, r_I0, r_U, r_eq, r_ne, r_isi, r_ixT, r_ixL, r_gcd, r_comb, r_sumT, r_sum, r_app, ap_dcT, ap_dispT, ap_dnewT, ap_dget, ap_dget2, ap_dput, w_itemsT, w_keys, r_rep, r_sorted, r_slL, r_in, ap_lc2, w_enumT, ap_for, ap_lc, w_tup, w_list, w_r1, w_r2, w_enum, w_zip, cx_K, cx_Kn, wipe,
  L2.start, List.length_cons, List.length_nil, List.map_cons, List.map_nil, List.cons_append, List.nil_append, List.replicate, Nat.zero_add, Nat.reduceAdd, Nat.reduceSub, List.set_cons_zero, List.set_cons_succ,
  List.getElem?_cons_zero, List.getElem?_cons_succ, Option.some.injEq, V.int.injEq, V.bl.injEq, V.str.injEq, V.ref.injEq, exists_eq_left, exists_eq_left', List.cons.injEq, and_true, true_and, and_assoc, scal, exists_and_left, decide_eq_true_eq, bne_iff_ne, Bool.not_eq_true', decide_eq_false_iff_not, if_true, if_false, Bool.false_eq_true, Bool.true_eq_false, if_pos, ite_true, ite_false, Bool.not_true, Bool.not_false])
theorem fac_lt : ∀ n : Nat, n ≤ 60 → (facI n).natAbs < 2 ^ (6 * n + 1)
  | 0, _ => by decide
  | n + 1, h => by
    show (((n : Int) + 1) * facI n).natAbs < _
    have h1 : ((n : Int) + 1).natAbs < 2 ^ 6 := by omega
    have := wide_lt h1 (fac_lt n (by omega))
    rw [show 6 + (6 * n + 1) = 6 * (n + 1) + 1 by omega] at this
    exact this
theorem fac_lt' {n : Nat} (h : n ≤ 60) : (facI n).natAbs < 2 ^ 400 := Nat.lt_of_lt_of_le (fac_lt n h) (Nat.pow_le_pow_right (by decide) (by omega))
theorem Mk1.ext {α : Type} {Rel : Hp → V → α → Prop} {out : Nat → List α} {H1 H H4 : Hp} {D : Addr} {i : Nat} {zs : List V} {ds : List α} (p : Mk1 Rel out H1 D i H) (k : Keeps D Rel) (hD : H1 D = none) (s : Same H H4) (r : Paired (Rel H4) zs ds) (o : out (i + 1) = out i ++ ds) :
    ∃ acc, H4 D = some (.lst acc) ∧ acc.length = (out i).length ∧ Mk1 Rel out H1 D (i + 1) (upd H4 D (.lst (acc ++ zs))) := by
  obtain ⟨acc, h, q⟩ := p.acc
  have h4 := s _ _ h
  refine ⟨acc, h4, paired_len q, fun a x e => ?_, acc ++ zs, upd_same, ?_⟩
  · rw [upd_ne (ne_of_none e hD)]
    exact s _ _ (p.same _ _ e)
  · rw [o]
    exact paired_app (paired_mono q fun v e re => k _ _ _ _ _ re h (SameX.trans (Same.x s) SameX.upd)) (paired_mono r fun v e re => k _ _ _ _ _ re h4 SameX.upd)
/-- a list of lots at its own address, not p -/
def RowI (p : Addr) (H : Hp) (v : V) (d : List LI) : Prop := ∃ q xs, v = .ref q ∧ q ≠ p ∧ H q = some (.lst xs) ∧ Paired (TI H) xs d
theorem keeps_RowI {p : Addr} : Keeps p (RowI p) := fun H H' v d L h hD s => by
  obtain ⟨q, xs, e, n, h1, h2⟩ := h
  exact ⟨q, xs, e, n, s _ _ n h1, paired_mono h2 fun v e t => TI.monoX (acc := []) t hD s⟩
def lotRow (T : List (List LI)) (whole : Nat) (i : Nat) : List LI := ((T.getD (whole - (i + 1)) []).filter fun r => decide (r = []) || decide (r.headD 0 ≤ (i : Int) + 1)).map fun r => ((i : Int) + 1) :: r
theorem lotStep_eq (T : List (List LI)) (whole : Nat) : lotStep T whole = (List.range whole).flatMap (lotRow T whole) := rfl
theorem lot_sizes : ∀ i, i < 7 → ∀ j, j ≤ i + 1 → (((List.range j).flatMap (lotRow (lotTab i) (i + 1))).length < 500 ∧ (lotRow (lotTab i) (i + 1) j).length < 500 ∧ ((lotTab i).getD (i + 1 - (j + 1)) []).length < 500) := by decide +kernel
theorem len_row : ∀ i, i < 7 → ∀ j, j ≤ i + 1 → ∀ r ∈ (lotTab i).getD (i + 1 - (j + 1)) [], r.length < 500 := by decide +kernel
theorem tab_len : ∀ i, (lotTab i).length = i + 1
  | 0 => rfl
  | i + 1 => by
    show (lotTab i ++ [_]).length = _
    simp [tab_len i]
section
variable {P : Program} {w : World} {K : PySem.W.Frag} {mg : Str → Option Value} {base : Heap}
theorem ok_factorial_in (T : Tx K mg) (D : DefAt K mg "factorial_in" s_factorial_in) : Cal P w K mg base 1 "factorial_in" spFact := by
  refine cal_of D (fun _ _ _ _ _ _ us hl => match us, hl with | [_], _ => rfl) sc_factorial_in (fun vs H Q E h => ?_) fun f cdv A outer s H vs Q E hr h => ?_
  · obtain ⟨n, rfl, h, q⟩ := h
    rfl
  · obtain ⟨n, rfl, h, q⟩ := h
    refine ⟨_, (pss_cons (ps_set (i := 1) sc_factorial_in.nd rfl (Or.inl rfl) pe_int)
        (pss_cons (ps_for PassesOwn.never rfl (pi_range2 (by rfl) T.range (pa_cons pe_int (pa_cons (pe_op op_add (pv 0) pe_int) pa_nil))) (pg_name (i := 2) sc_factorial_in.nd rfl (Or.inl rfl)) (pss_one (ps_aug (i := 1) sc_factorial_in.nd rfl (.inl rfl) (pv 2) ip_mulW)))
        (pss_one (ps_ret (pv 1))))), ?_⟩
    walk_at "rd"
    refine ⟨by decide, by decide, by omega, by omega, for_it walk_range (fun i σ H' => H' = H ∧ ∃ b, σ = [some (.int n), some (.int (facI (i + 1))), b]) ⟨rfl, _, rfl⟩ (fun _ _ _ _ _ => trivial) ?_ ?_⟩
    · rintro i x σ H1 H2 hi ⟨rfl, b, rfl⟩ ⟨rfl, rfl⟩
      walk_at "rd"
      refine ⟨wide_mul (fac_lt' (by omega)) (natAbs_lt_pow (n := 10) (by omega) (by omega)) (by decide) (by decide) (by decide), ?_⟩
      rw [show facI (i + 1 + 1) = facI (i + 1) * (2 + (i : Int)) by show (((i + 1 : Nat) : Int) + 1) * _ = _; rw [Int.mul_comm]; congr 1; omega]
      exact ⟨rfl, _, rfl⟩
    · rintro σ H1 ⟨rfl, b, rfl⟩
      walk_at "rd"
      have : facI ((((n : Int) + 1) - 2).toNat + 1) = facI n := by
        cases n with
        | zero => rfl
        | succ n => congr 1; omega
      rw [this]
      exact q
theorem ok_members_product  (D : DefAt K mg "members_product" s_members_product) : Cal P w K mg base 1 "members_product" spMembers := by
  refine cal_of D (fun _ _ _ _ _ _ us hl => match us, hl with | [_], _ => rfl) sc_members_product (fun vs H Q E h => ?_) fun f cdv A outer s H vs Q E hr h => ?_
  · obtain ⟨v, l, rfl, ⟨a, rfl, e⟩, hm, hl, q⟩ := h
    rfl
  · obtain ⟨v, l, rfl, ⟨a, rfl, e⟩, hm, hl, q⟩ := h
    refine ⟨_, (pss_cons (ps_set (i := 1) sc_members_product.nd rfl (Or.inl rfl) pe_int)
        (pss_cons (ps_for PassesOwn.never rfl (pi_tup (pv 0)) (pg_name (i := 2) sc_members_product.nd rfl (Or.inl rfl)) (pss_one (ps_aug (i := 1) sc_members_product.nd rfl (.inl rfl) (pv 2) ip_mulW)))
        (pss_one (ps_ret (pv 1))))), ?_⟩
    walk_at "rd"
    have pb : ∀ i, i ≤ 40 → (prodI (l.take i)).natAbs < 2 ^ (64 * i + 1) := fun i => by
      induction i with
      | zero => intro _; simp [prodI]
      | succ i ih =>
        intro hi
        rw [List.take_succ]
        cases e : l[i]? with
        | none =>
          simp
          exact Nat.lt_of_lt_of_le (ih (by omega)) (Nat.pow_le_pow_right (by decide) (by omega))
        | some m =>
          simp only [Option.toList, prodI, List.foldl_append, List.foldl_cons, List.foldl_nil]
          have := wide_lt (ih (by omega)) (hm m (List.mem_of_getElem? e))
          rw [show 64 * i + 1 + 64 = 64 * (i + 1) + 1 by omega] at this
          exact this
    refine ⟨⟨_, SqT.rd e⟩, for_it walk_tup (fun i σ H' => H' = H ∧ ∃ b, σ = [some (.ref a), some (.int (prodI (l.take i))), b]) ⟨rfl, _, rfl⟩ (fun _ _ _ _ p => by rw [p.1]; exact SqT.rd e) ?_ ?_⟩
    · rintro i x σ H1 H2 hi ⟨rfl, b, rfl⟩ ⟨rfl, hx⟩
      obtain ⟨m, hm2, rfl, hmem⟩ := at_ints hx
      walk_at "rd"
      simp at hi
      refine ⟨wide_mul (pb i (by omega)) (hm m hmem) (by omega) (by decide) (by omega), ?_⟩
      rw [List.take_succ, hm2]
      simp [prodI]
    · rintro σ H1 ⟨rfl, b, rfl⟩
      walk_at "rd"
      simpa using q
theorem ok_lots_in (T : Tx K mg) (D : DefAt K mg "lots_in" s_lots_in) : Cal P w K mg base 1 "lots_in" spLotsIn := by
  refine cal_of D (fun _ _ _ _ _ _ us hl => match us, hl with | [_], _ => rfl) sc_lots_in (fun vs H Q E h => ?_) fun f cdv A outer s H vs Q E hr h => ?_
  · obtain ⟨n, rfl, h, q⟩ := h
    rfl
  · obtain ⟨n, rfl, h, q⟩ := h
    refine ⟨_, (pss_cons (ps_set (i := 1) sc_lots_in.nd rfl (Or.inl rfl) (pe_lst (pa_cons (pe_lst (pa_cons (pe_tup pa_nil) pa_nil)) pa_nil)))
        (pss_cons (ps_for PassesOwn.never rfl (pi_range2 (by rfl) T.range (pa_cons pe_int (pa_cons (pe_op op_add (pv 0) pe_int) pa_nil))) (pg_name (i := 2) sc_lots_in.nd rfl (Or.inl rfl)) (pss_cons (ps_set (i := 3) sc_lots_in.nd rfl (Or.inl rfl) (pe_lst pa_nil))
        (pss_cons (ps_for PassesOwn.never rfl (pi_range2 (by rfl) T.range (pa_cons pe_int (pa_cons (pe_op op_add (pv 2) pe_int) pa_nil))) (pg_name (i := 4) sc_lots_in.nd rfl (Or.inr rfl)) (pss_one (ps_expr (pe_bm PySem.F.plainAttrs_list PySem.F.slot_list_extend PySem.F.type_list_extend mt_extend (pv 3) (pa_cons (pe_lc (own := [("rest", 5)]) (g := gName 5) (tt := tOr (tTest (tOp (rEqD K) (tVar 5) (tTup tNil))) (tTest (tOp (rI0 fun i j => .bl (decide (i ≤ j))) (tOp (rIxT K) (tVar 5) (tC (.int 0))) (tVar 4)))) (te := tTup (tCons (tVar 4) (StX.tStar K (tVar 5) tNil))) rfl sc_lots_in.nd (pi_list (pe_ix ix_list (pv 1) (pe_op op_sub (pv 2) (pv 4)) (fun _ _ => rfl))) (blkOk_by (N := ["total", "found", "whole", "here", "first", "rest"]) (sc := defScope s_lots_in) (by decide +kernel)) (fun _ _ _ _ _ => (pg_name (i := 5) sc_lots_in.nd rfl (Or.inl rfl))) (fun _ _ _ _ _ => (pts_one (PW.pt (pw_or (pt_cmpR (op_eqD hr.units) (pv 5) (pe_tup pa_nil) (nomark _)) (pw_or1 (pt_cmpR op_le (pe_ix ix_tup (pv 5) pe_int (fun _ _ => rfl)) (pv 4) (nomark _))))))) (fun _ _ _ _ _ => (pe_tup (pa_cons (pv 4) (StX.pa_star (pv 5) pa_nil))))) pa_nil)))))
        (pss_one (ps_expr (pe_bm PySem.F.plainAttrs_list PySem.F.slot_list_append PySem.F.type_list_append mt_append (pv 1) (pa_cons (pv 3) pa_nil)))))))
        (pss_one (ps_ret (pe_ix ix_list (pv 1) (pv 0) (fun _ _ => rfl)))))), ?_⟩
    walk_at "rd"
    refine ⟨by decide, fun t ht => ⟨by decide, fun q0 hq0 => ⟨by decide, fun p hp => ?_⟩⟩⟩
    refine ⟨by decide, by decide, by omega, by omega, for_it walk_range (fun i σ H' => Mk1 (RowI p) lotTab H p i H' ∧ ∃ b c d, σ = [some (.int n), some (.ref p), b, c, d, none]) ⟨?_, _, _, _, rfl⟩ (fun _ _ _ _ _ => trivial) ?_ ?_⟩
    · have h1 : H q0 = none := Same.no (same_upd ht) hq0
      have h2 : H p = none := Same.no (same_upd ht) (Same.no (same_upd hq0) hp)
      have nq : q0 ≠ p := fun z => by rw [z, upd_same] at hp; cases hp
      have nt : t ≠ p := fun z => by
        rw [upd_ne (fun z2 => nq z2.symm), z, upd_same] at hp
        cases hp
      have ntq : t ≠ q0 := fun z => by rw [z, upd_same] at hq0; cases hq0
      refine ⟨Same.trans (same_upd ht) (Same.trans (same_upd hq0) (same_upd hp)), _, upd_same, .cons ⟨q0, _, rfl, nq, ?_, .cons ⟨t, rfl, ?_⟩ .nil⟩ .nil⟩
      · rw [upd_ne nq, upd_same]
      · rw [upd_ne nt, upd_ne ntq, upd_same]
        rfl
    · rintro i x σ H1 H2 hi ⟨mk, b, c, d, rfl⟩ ⟨rfl, rfl⟩
      walk_at "rd"
      have hn : i < 7 := by omega
      refine ⟨by decide, fun h1 hh1 => ⟨by decide, by decide, by omega, by omega, ?_⟩⟩
      have hp0 : H p = none := Same.no (same_upd ht) (Same.no (same_upd hq0) hp)
      obtain ⟨rows, hrows, prow⟩ := mk.acc
      have nh : p ≠ h1 := fun z => by rw [z, hh1] at hrows; cases hrows
      refine for_it walk_range (fun j σ H' => Mk1 TI (fun j => (List.range j).flatMap (lotRow (lotTab i) (i + 1))) H2 h1 j H' ∧ ∃ d, σ = [some (.int n), some (.ref p), some (.int (1 + i)), some (.ref h1), d, none]) ⟨Mk1.zero rfl hh1, _, rfl⟩ (fun _ _ _ _ _ => trivial) ?_ ?_
      · rintro j x σ H3 H4 hj ⟨mk2, d2, rfl⟩ ⟨rfl, rfl⟩
        walk_at "rd"
        have hj' : j ≤ i := by omega
        obtain ⟨sz1, sz2, sz3⟩ := lot_sizes i hn j (by omega)
        obtain ⟨acc, hacc, _⟩ := mk2.acc
        have hrows3 := mk2.same _ _ hrows
        have hd : (lotTab i)[i - j]? = some ((lotTab i).getD (i + 1 - (j + 1)) []) := by
          rw [show i + 1 - (j + 1) = i - j by omega, List.getD_eq_getElem?_getD]
          rw [List.getElem?_eq_getElem (by rw [tab_len]; omega)]
          rfl
        obtain ⟨rv, hrv, q1, xs1, rfl, nq1, hq1, pxs⟩ := paired_at' prow hd
        generalize hrow : (lotTab i).getD (i + 1 - (j + 1)) [] = row at hd pxs sz3
        have hq3 := mk2.same _ _ hq1
        refine ⟨.inl ⟨rfl, _, SqL.of' hacc⟩, rows, SqL.of' hrows3, .ref q1, ?_, q1, rfl, ⟨xs1, SqL.of' hq3⟩, fun D hD => ?_⟩
        · rw [show (1 + (i : Int) - (1 + (j : Int))) = ((i - j : Nat) : Int) by omega]
          exact atI_nat hrv
        have nD : h1 ≠ D := fun z => by rw [z, hD] at hacc; cases hacc
        refine lc_it walk_list (Mk1 TI (fun k => ((row.take k).filter fun r => decide (r = []) || decide (r.headD 0 ≤ (j : Int) + 1)).map fun r => ((j : Int) + 1) :: r) H4 D) (Mk1.zero rfl hD) (fun k H5 _ p5 => SqL.of' (p5.same _ _ hq3)) ?_ ?_
        · rintro k x H5 H6 hk p5 ⟨rfl, hx⟩
          obtain ⟨r, hr, tr⟩ := paired_at pxs hx
          have tr5 := (tr.mono mk2.same).mono p5.same
          have ro : (((row.take (k + 1)).filter fun r => decide (r = []) || decide (r.headD 0 ≤ (j : Int) + 1)).map fun r => ((j : Int) + 1) :: r) = (((row.take k).filter fun r => decide (r = []) || decide (r.headD 0 ≤ (j : Int) + 1)).map fun r => ((j : Int) + 1) :: r) ++ (if (decide (r = []) || decide (r.headD 0 ≤ (j : Int) + 1)) = true then [((j : Int) + 1) :: r] else []) := by
            rw [take_filter hr]
            split <;> simp
          have small : (((row.take k).filter fun r => decide (r = []) || decide (r.headD 0 ≤ (j : Int) + 1)).map fun r => ((j : Int) + 1) :: r).length < sizeLine := by
            rw [List.length_map]
            have h1 := List.length_filter_le (fun r => decide (r = []) || decide (r.headD 0 ≤ (j : Int) + 1)) (row.take k)
            have h2 : (row.take k).length ≤ row.length := by rw [List.length_take]; omega
            exact small1000 (by omega)
          walk_at "rd"
          refine ⟨by decide, fun e he => eqTI (tr5.mono (same_upd he)) TI.nil ⟨_, rfl, ?_⟩⟩
          have tr6 := tr5.mono (same_upd (o := .tup []) he)
          have s6 : Same H6 (upd H6 e (.tup [])) := same_upd he
          generalize upd H6 e (.tup []) = H7 at tr6 s6
          have fin : ∀ H8, Same H7 H8 → (decide (r = []) || decide (r.headD 0 ≤ (j : Int) + 1)) = true → ∃ (pa : Addr), x = V.ref pa ∧ ∃ ys, (SqT K H8 pa ys ∨ SqL K H8 pa ys) ∧ (ys ++ []).length + 1 ≤ sizeLine ∧ ∀ (q : Addr), H8 q = none → ∃ acc, upd H8 q (.tup (V.int (1 + j) :: (ys ++ []))) D = some (.lst acc) ∧ acc.length < sizeLine ∧ Mk1 TI (fun k => ((row.take k).filter fun r => decide (r = []) || decide (r.headD 0 ≤ (j : Int) + 1)).map fun r => ((j : Int) + 1) :: r) H4 D (k + 1) (upd (upd H8 q (.tup (V.int (1 + j) :: (ys ++ [])))) D (.lst (acc ++ [V.ref q]))) := fun H8 s8 ht => by
            obtain ⟨pa, rfl, hpa⟩ := tr6.mono s8
            refine ⟨pa, rfl, _, .inl (SqT.of' hpa), ?_, fun q hq => ?_⟩
            · have hrl : r.length < 500 := len_row i hn j (by omega) r (by rw [hrow]; exact List.mem_of_getElem? hr)
              simp
              exact small1000 (by omega)
            · refine p5.push keeps_TI hD (Same.trans s6 (Same.upd s8 hq)) (d := ((j : Int) + 1) :: r) ⟨q, rfl, ?_⟩ ?_ small
              · rw [upd_same]
                simp [Int.add_comm]
              · show _ = _ ++ [_]
                rw [ro, if_pos ht]
          by_cases hnil : r = []
          · rw [if_pos (by rw [decide_eq_true hnil])]
            exact fin H7 Same.refl (by simp [hnil])
          · rw [if_neg (by simp [hnil])]
            obtain ⟨pa, rfl, hpa⟩ := tr6
            refine ⟨pa, rfl, _, SqT.of' hpa, ?_⟩
            cases r with
            | nil => exact absurd rfl hnil
            | cons m r =>
              refine ⟨.int m, at0, m, rfl, ?_⟩
              by_cases hm : m ≤ 1 + (j : Int)
              · rw [if_pos hm]
                obtain ⟨pa2, e2, ys, h1, h2, h3⟩ := fin H7 Same.refl (by simp; omega)
                exact ⟨pa2, e2, ys, h1, h2, h3⟩
              · rw [if_neg hm]
                refine p5.skip keeps_TI s6 ?_
                show _ = _
                rw [ro, if_neg (by simp; omega)]
                simp
        · intro H5 p5
          obtain ⟨ys, hys, pys⟩ := p5.acc
          have hl := paired_len pxs
          rw [hl, List.take_length] at pys
          obtain ⟨ac2, hac2, hlen, mk3⟩ := mk2.ext (ds := lotRow (lotTab i) (i + 1) j) keeps_TI hh1 p5.same (by unfold lotRow; rw [hrow]; exact pys) (range_flat _ _)
          refine ⟨h1, D, ac2, ys, rfl, rfl, hac2, hys, ?_, mk3, _, rfl⟩
          have := paired_len pys
          rw [hlen, this, List.length_map]
          have h1 := List.length_filter_le (fun r => decide (r = []) || decide (r.headD 0 ≤ (j : Int) + 1)) row
          exact Nat.le_of_lt (small1000 (by omega))
      · rintro σ H3 ⟨mk2, d2, rfl⟩
        walk_at "rd"
        obtain ⟨hs, hhs, phs⟩ := mk2.acc
        have hrows3 := mk2.same _ _ hrows
        obtain ⟨ac, hac, hsm, mk4⟩ := mk.push (H4 := H3) (y := .ref h1) (d := lotStep (lotTab i) (i + 1)) keeps_RowI hp0 mk2.same ⟨h1, hs, rfl, Ne.symm nh, hhs, by
          rw [show (1 + (i : Int) + 1 - 1).toNat = i + 1 by omega] at phs
          exact phs⟩ rfl (by rw [tab_len]; exact small1000 (by omega))
        refine ⟨.inl ⟨rfl, _, SqL.of' hac⟩, ac, hac, hsm, mk4, _, rfl⟩
    · rintro σ H1 ⟨mk, b, c, d, rfl⟩
      walk_at "rd"
      obtain ⟨rows, hrows, prow⟩ := mk.acc
      have hd : (lotTab (((n : Int) + 1 - 1).toNat))[n]? = some (lotsM n) := by
        rw [show ((n : Int) + 1 - 1).toNat = n by omega]
        unfold lotsM
        rw [List.getD_eq_getElem?_getD, List.getElem?_eq_getElem (by rw [tab_len]; omega)]
        rfl
      obtain ⟨rv, hrv, q1, xs1, rfl, nq1, hq1, pxs⟩ := paired_at' prow hd
      exact ⟨rows, SqL.of' hrows, .ref q1, atI_nat hrv, q q1 H1 xs1 mk.same hq1 pxs⟩
end
end K53
namespace K53
open PySem PySem.Spec PyProof.Rows L2
local macro_rules | `(tactic| walk_at "rd") => `(tactic| simp only [ap_seq, ap_next, ap_drop, ap_ret, ap_retN, ap_ifS, ap_asg, ap_par, ap_par3, ap_aug, ap_nm, ap_test, ap_tB, ap_and, ap_or, ap_not, ap_if, ap_andV, ap_notV, ap_op, ap_un, ap_c, ap_var, ap_nil, ap_cons, ap_tup, ap_lst, ap_cl, ap_cb, ap_bm, ap_bm0, ap_sl, ap_nopart, ap_part, ap_never, ap_chain, ap_fld, ap_gtup, ap_gcons, ap_gnil, ap_yes, ap_revL, ap_star,
  r_I, r_I0, r_U, r_eq, r_ne, r_isi, r_ixT, r_ixL, r_gcd, r_comb, r_sumT, r_sum, r_app, ap_dcT, ap_dispT, ap_dnewT, ap_dget, ap_dget2, ap_dput, w_itemsT, w_keys, r_rep, r_sorted, r_slL, r_in, ap_lc2, w_enumT, ap_for, ap_lc, w_tup, w_list, w_r1, w_r2, w_enum, w_zip, cx_K, cx_Kn, wipe,
  L2.start, List.length_cons, List.length_nil, List.map_cons, List.map_nil, List.cons_append, List.nil_append, List.replicate, Nat.zero_add, Nat.reduceAdd, Nat.reduceSub, List.set_cons_zero, List.set_cons_succ,
  List.getElem?_cons_zero, List.getElem?_cons_succ, Option.some.injEq, V.int.injEq, V.bl.injEq, V.str.injEq, V.ref.injEq, exists_eq_left, exists_eq_left', List.cons.injEq, and_true, true_and, and_assoc, scal, exists_and_left, decide_eq_true_eq, bne_iff_ne, Bool.not_eq_true', decide_eq_false_iff_not, if_true, if_false, Bool.false_eq_true, Bool.true_eq_false, if_pos, ite_true, ite_false, Bool.not_true, Bool.not_false])
section
variable {P : Program} {w : World} {K : PySem.W.Frag} {mg : Str → Option Value} {base : Heap}
theorem ok_squares_in (T : Tx K mg) (D : DefAt K mg "squares_in" s_squares_in) : Cal P w K mg base 1 "squares_in" spSquares := by
  refine cal_of D (fun _ _ _ _ _ _ us hl => match us, hl with | [_], _ => rfl) sc_squares_in (fun vs H Q E h => ?_) fun f cdv A outer s H vs Q E hr h => ?_
  · obtain ⟨v, l, rfl, ⟨a, rfl, e⟩, ti, q⟩ := h
    rfl
  · obtain ⟨v, l, rfl, ⟨a, rfl, e⟩, ti, q⟩ := h
    refine ⟨_, (pss_one (ps_ret (pe_lc2 (own := [("row", 1), ("member", 2), ("column", 3)]) (vs1 := [3]) (g := gTup K 2 (gCons (gName 1) (gCons (gName 2) gNil))) (g1 := gName 3) (tt := tYes) (tt1 := tYes) rfl sc_squares_in.nd (pi_enumT (by rfl) T.enumerate (pa_cons (pv 0) pa_nil)) (blkOk_by (N := ["lot", "row", "member", "column"]) (sc := defScope s_squares_in) (by decide +kernel)) (by decide) (fun _ _ _ _ _ => (pg_tup (by rfl) (pgs_cons (pg_name (i := 1) sc_squares_in.nd rfl (Or.inl rfl)) (pgs_cons (pg_name (i := 2) sc_squares_in.nd rfl (Or.inl rfl)) pgs_nil)))) (fun _ _ _ _ _ => pts_nil) (fun _ _ _ _ _ => (pi_range1 rfl T.range (pa_cons (pv 2) pa_nil))) (fun _ _ _ _ _ => (pg_name (i := 3) sc_squares_in.nd rfl (Or.inl rfl))) (fun _ _ _ _ _ => pts_nil) (fun _ _ _ _ _ => (pe_tup (pa_cons (pv 1) (pa_cons (pv 3) pa_nil))))))), ?_⟩
    walk_at "rd"
    refine ⟨_, SqT.of' e, fun D hD => out_it walk_enumT (Mk1 TI (fun i => sqFrom 0 (l.take i)) H D) (Mk1.zero rfl hD) (fun i H2 _ p => SqT.of' (p.same _ _ e)) ?_ ?_⟩
    · rintro i x H2 H3 hi p ⟨T, x1, x2, rfl, hT, rfl, hx1, hx2⟩
      cases hx1
      obtain ⟨m, hm, rfl, hmem⟩ := at_ints hx2
      have hb := ti.mem hmem
      walk_at "rd"
      refine ⟨_, SqT.of' upd_same, rfl, _, _, rfl, _, _, rfl, rfl, ?_⟩
      walk_at "rd"
      refine ⟨by omega, by omega, in_it walk_range (Mk1 TI (fun j => sqFrom 0 (l.take i) ++ (List.range j).map fun (c : Nat) => [(i : Int), (c : Int)]) H D) ?_ (fun _ _ _ _ => trivial) ?_ ?_⟩
      · exact p.stay keeps_TI (same_upd hT) (by simp)
      · rintro j x H4 H5 hj p5 ⟨rfl, rfl⟩
        walk_at "rd"
        refine ⟨by decide, fun t ht => p5.push keeps_TI hD (same_upd ht) (d := [(i : Int), (j : Int)]) ⟨t, rfl, by rw [upd_same]; simp⟩ ?_ ?_⟩
        · show _ = _
          rw [List.range_succ, List.map_append, List.append_assoc]
          rfl
        · have h1 := sqFrom_len (l.take i) 0 fun m hm => (ti.mem (List.mem_of_mem_take hm)).2
          have h2 : (l.take i).length ≤ 7 := by rw [List.length_take]; have := ti.len; omega
          rw [List.length_append, List.length_map, List.length_range]
          exact small1000 (by omega)
      · intro H4 p4
        refine p4.stay keeps_TI Same.refl ?_
        show sqFrom 0 (l.take (i + 1)) = _
        rw [take_push hm, sqFrom_push]
        have hl : (l.take i).length = i := by rw [List.length_take]; simp at hi; omega
        rw [hl]
        simp [sqRow]
    · intro H2 p
      obtain ⟨acc, h, pr⟩ := p.acc
      rw [List.length_map, List.take_length] at pr
      exact q D H2 acc p.same h pr
theorem ok_contents_in (c_squares_in : Cal P w K mg base 1 "squares_in" spSquares) (D : DefAt K mg "contents_in" s_contents_in) : Cal P w K mg base 2 "contents_in" spContents := by
  refine cal_of D (fun _ _ _ _ _ _ us hl => match us, hl with | [_], _ => rfl) sc_contents_in (fun vs H Q E h => ?_) fun f cdv A outer s H vs Q E hr h => ?_
  · obtain ⟨v, l, rfl, tl, ti, q⟩ := h
    rfl
  · obtain ⟨v, l, rfl, tl, ti, q⟩ := h
    refine ⟨_, (pss_one (ps_ret (pe_lc (own := [("row", 1), ("column", 2)]) (g := gTup K 2 (gCons (gName 1) (gCons (gName 2) gNil))) (tt := tYes) rfl sc_contents_in.nd (pi_list (pe_c c_squares_in hr (by decide) (by rfl) (pa_cons (pv 0) pa_nil))) (blkOk_by (N := ["lot", "row", "column"]) (sc := defScope s_contents_in) (by decide +kernel)) (fun _ _ _ _ _ => (pg_tup (by rfl) (pgs_cons (pg_name (i := 1) sc_contents_in.nd rfl (Or.inl rfl)) (pgs_cons (pg_name (i := 2) sc_contents_in.nd rfl (Or.inl rfl)) pgs_nil)))) (fun _ _ _ _ _ => pts_nil) (fun _ _ _ _ _ => (pe_op op_sub (pv 2) (pv 1)))))), ?_⟩
    walk_at "rd"
    refine ⟨v, l, rfl, tl, ti, fun p H1 xs s1 e1 px => ⟨p, rfl, ⟨_, SqL.of' e1⟩, fun D hD => ?_⟩⟩
    have hlen : (sqM l).length ≤ 49 := by
      have h1 := sqFrom_len l 0 fun m hm => (ti.mem hm).2
      have h2 := ti.len
      unfold sqM
      omega
    refine lc_it walk_list (Mk1 (fun _ v d => v = .int d) (fun i => ((sqM l).take i).map fun p => p.getD 1 0 - p.getD 0 0) H1 D) (Mk1.zero rfl hD) (fun i H2 _ p => SqL.of' (p.same _ _ e1)) ?_ ?_
    · rintro i x H2 H3 hi mk ⟨rfl, hx⟩
      obtain ⟨d, hd, a, rfl, hr⟩ := paired_at px hx
      obtain ⟨r, c, rfl⟩ := sq_two l 0 d (List.mem_of_getElem? hd)
      walk_at "rd"
      refine ⟨_, SqT.of' (mk.same _ _ hr), rfl, _, _, rfl, _, _, rfl, rfl, _, rfl, _, rfl, ?_⟩
      refine mk.push keeps_int hD Same.refl (d := c - r) rfl ?_ ?_
      · show _ = _
        rw [take_push hd]
        simp
      · rw [List.length_map, List.length_take]
        exact small1000 (by omega)
    · intro H2 mk
      refine q D H2 (Same.no s1 hD) (Same.trans s1 mk.same) ?_
      rw [mk.ints]
      have := paired_len px
      rw [this, List.take_length]
      show _ = some (HO.lst ((contFrom 0 l).map V.int))
      rw [contFrom_sq]
      rfl
theorem ok_beads_in (T : Tx K mg) (D : DefAt K mg "beads_in" s_beads_in) : Cal P w K mg base 1 "beads_in" spBeads := by
  refine cal_of D (fun _ _ _ _ _ _ us hl => match us, hl with | [_, _], _ => rfl) sc_beads_in (fun vs H Q E h => ?_) fun f cdv A outer s H vs Q E hr h => ?_
  · obtain ⟨v, l, n, rfl, ⟨a, rfl, e⟩, hl, hn, q⟩ := h
    rfl
  · obtain ⟨v, l, n, rfl, ⟨a, rfl, e⟩, hl, hn, q⟩ := h
    refine ⟨_, (pss_cons (ps_set (i := 2) sc_beads_in.nd rfl (Or.inl rfl) (pe_lst (StX.pa_star (pv 0) (StX.pa_star (pe_op op_rep (pe_lst (pa_cons pe_int pa_nil)) (pe_op op_sub (pv 1) (pe_callB call_len (by rfl) T.len (by decide +kernel) (pa_cons (pv 0) pa_nil)))) pa_nil))))
        (pss_one (ps_ret (pe_lc (own := [("at", 3), ("member", 4)]) (g := gTup K 2 (gCons (gName 3) (gCons (gName 4) gNil))) (tt := tYes) rfl sc_beads_in.nd (pi_enum (by rfl) T.enumerate (pa_cons (pv 2) pa_nil)) (blkOk_by (N := ["shape", "rows", "members", "at", "member"]) (sc := defScope s_beads_in) (by decide +kernel)) (fun _ _ _ _ _ => (pg_tup (by rfl) (pgs_cons (pg_name (i := 3) sc_beads_in.nd rfl (Or.inl rfl)) (pgs_cons (pg_name (i := 4) sc_beads_in.nd rfl (Or.inl rfl)) pgs_nil)))) (fun _ _ _ _ _ => pts_nil) (fun _ _ _ _ _ => (pe_op op_sub (pe_op op_sub (pe_op op_add (pv 4) (pv 1)) pe_int) (pv 3))))))), ?_⟩
    walk_at "rd"
    have rep0 : ∀ k : Nat, (List.replicate k [V.int 0]).flatten = (List.replicate k (0 : Int)).map V.int := fun k => by
      induction k with
      | zero => rfl
      | succ k ih => rw [List.replicate_succ, List.flatten_cons, ih]; rfl
    refine ⟨_, .inl (SqT.of' e), by decide, fun z hz => ⟨_, lenTI ⟨a, rfl, same_upd hz _ _ e⟩, _, upd_same, by omega, by omega, ?_, fun y hy => ⟨_, .inr (SqL.of' upd_same), ?_⟩⟩⟩
    · rw [List.length_singleton, Nat.one_mul]
      exact Nat.le_of_lt (small1000 (by omega))
    have ek : ((n : Int) - (l.length : Int)).toNat = n - l.length := by omega
    rw [ek, rep0, List.append_nil, ← List.map_append]
    have ml : (l ++ List.replicate (n - l.length) (0 : Int)).length = n := by simp; omega
    refine ⟨by rw [List.length_map, ml]; exact Nat.le_of_lt (small1000 (by omega)), fun ms hms => ?_⟩
    have sm : Same H (upd (upd (upd H z (.lst [.int 0])) y (.lst ((List.replicate (n - l.length) 0).map V.int))) ms (.lst ((l ++ List.replicate (n - l.length) 0).map V.int))) := Same.upd (Same.upd (same_upd hz) hy) hms
    have at_ms : (upd (upd (upd H z (.lst [.int 0])) y (.lst ((List.replicate (n - l.length) 0).map V.int))) ms (.lst ((l ++ List.replicate (n - l.length) 0).map V.int))) ms = some (.lst ((l ++ List.replicate (n - l.length) 0).map V.int)) := upd_same
    generalize upd (upd (upd H z (.lst [.int 0])) y (.lst ((List.replicate (n - l.length) 0).map V.int))) ms (.lst ((l ++ List.replicate (n - l.length) 0).map V.int)) = H1 at sm at_ms ⊢
    refine ⟨_, SqL.of' at_ms, fun D hD => lc_it walk_enum (Mk1 (fun _ v d => v = .int d) (fun i => (beadsM l n).take i) H1 D) (Mk1.zero rfl hD) (fun i H2 _ mk => SqL.of' (mk.same _ _ at_ms)) ?_ ?_⟩
    · rintro i x H2 H3 hi mk ⟨T, x1, x2, rfl, hT, rfl, hx1, hx2⟩
      cases hx1
      obtain ⟨m, hm, rfl, hmem⟩ := at_ints hx2
      walk_at "rd"
      refine ⟨_, SqT.of' upd_same, rfl, _, _, rfl, _, _, rfl, rfl, _, rfl, _, rfl, ?_⟩
      refine mk.push keeps_int hD (same_upd hT) rfl (take_push ?_) ?_
      · unfold beadsM
        rw [beads_at, hm]
        simp
      · rw [List.length_take]
        rw [beadsM_len hl]
        exact small1000 (by omega)
    · intro H2 mk
      refine q D H2 (Same.trans sm mk.same) ?_
      rw [mk.ints, List.length_map, ml, List.take_of_length_le (by rw [beadsM_len hl]; exact Nat.le_refl _)]
theorem ok_lot_in (T : Tx K mg) (D : DefAt K mg "lot_in" s_lot_in) : Cal P w K mg base 1 "lot_in" spLotIn := by
  refine cal_of D (fun _ _ _ _ _ _ us hl => match us, hl with | [_], _ => rfl) sc_lot_in (fun vs H Q E h => ?_) fun f cdv A outer s H vs Q E hr h => ?_
  · obtain ⟨p, bs, rfl, e, hl, q⟩ := h
    rfl
  · obtain ⟨p, bs, rfl, e, hl, q⟩ := h
    refine ⟨_, (pss_cons (ps_set (i := 1) sc_lot_in.nd rfl (Or.inl rfl) (pe_callB cr_sorted (by rfl) T.sorted (by decide +kernel) (pa_cons (pv 0) pa_nil)))
        (pss_one (ps_ret (pe_callTy call_tuple_of (by rfl) T.tuple (by decide +kernel) (pa_cons (pe_revL (pe_lc (own := [("at", 2), ("bead", 3)]) (g := gTup K 2 (gCons (gName 2) (gCons (gName 3) gNil))) rfl sc_lot_in.nd (pi_enum (by rfl) T.enumerate (pa_cons (pv 1) pa_nil)) (blkOk_by (N := ["beads", "told", "at", "bead"]) (sc := defScope s_lot_in) (by decide +kernel)) (fun _ _ _ _ _ => (pg_tup (by rfl) (pgs_cons (pg_name (i := 2) sc_lot_in.nd rfl (Or.inl rfl)) (pgs_cons (pg_name (i := 3) sc_lot_in.nd rfl (Or.inl rfl)) pgs_nil)))) (fun _ _ _ _ _ => (pts_one (pt_cmpR op_gt (pv 3) (pv 2) (nomark _)))) (fun _ _ _ _ _ => (pe_op op_sub (pv 3) (pv 2))))) pa_nil))))), ?_⟩
    walk_at "rd"
    refine ⟨_, SqL.of' e, hl, fun ns t pm sd ht => ⟨_, SqL.of' upd_same, fun D hD => ?_⟩⟩
    have en : ns = isort bs := eq_isort pm sd
    have hlen : ns.length < 64 := by rw [pm.length_eq]; exact hl
    refine lc_it walk_enum (Mk1 (fun _ v d => v = .int d) (fun i => lotInFrom 0 (ns.take i)) (upd H t (.lst (ns.map V.int))) D) (Mk1.zero rfl hD) (fun i H2 _ mk => SqL.of' (mk.same _ _ upd_same)) ?_ ?_
    · rintro i x H2 H3 hi mk ⟨T, x1, x2, rfl, hT, rfl, hx1, hx2⟩
      cases hx1
      obtain ⟨m, hm, rfl, hmem⟩ := at_ints hx2
      have hti : (ns.take i).length = i := by rw [List.length_take]; simp at hi; omega
      walk_at "rd"
      refine ⟨_, SqT.of' upd_same, rfl, _, _, rfl, _, _, rfl, rfl, _, rfl, _, rfl, ?_⟩
      have ro : lotInFrom 0 (ns.take (i + 1)) = lotInFrom 0 (ns.take i) ++ (if m > (i : Int) then [m - i] else []) := by
        rw [take_push hm, lotIn_push, hti, Int.zero_add]
      by_cases hmi : (i : Int) < m
      · rw [if_pos hmi]
        refine ⟨_, rfl, _, rfl, mk.push keeps_int hD (same_upd hT) rfl (by show _ = _; rw [ro, if_pos hmi]) ?_⟩
        have := lotIn_len (ns.take i) 0
        have h2 : (ns.take i).length ≤ ns.length := by rw [List.length_take]; omega
        show (lotInFrom 0 (ns.take i)).length < sizeLine
        exact small1000 (by omega)
      · rw [if_neg hmi]
        exact mk.skip keeps_int (same_upd hT) (by show _ = _; rw [ro, if_neg hmi, List.append_nil])
    · intro H2 mk
      refine ⟨_, SqL.of' mk.ints, fun p2 hp2 => ⟨_, .inl ⟨SqL.of' upd_same, fun t2 ht2 => q _ _ ?_ ⟨t2, rfl, ?_⟩⟩⟩⟩
      · exact Same.upd (Same.upd (Same.trans (same_upd ht) mk.same) hp2) ht2
      · rw [upd_same]
        unfold lotInM
        rw [← en, List.map_reverse]
        simp
end
end K53
namespace K53
open PySem PySem.Spec PyProof.Rows L2
local macro_rules | `(tactic| walk_at "rd") => `(tactic| simp only [ap_seq, ap_next, ap_drop, ap_ret, ap_retN, ap_ifS, ap_asg, ap_par, ap_par3, ap_aug, ap_nm, ap_test, ap_tB, ap_and, ap_or, ap_not, ap_if, ap_andV, ap_notV, ap_op, ap_un, ap_c, ap_var, ap_nil, ap_cons, ap_tup, ap_lst, ap_cl, ap_cb, ap_bm, ap_bm0, ap_sl, ap_nopart, ap_part, ap_never, ap_chain, ap_fld, ap_gtup, ap_gcons, ap_gnil, ap_yes, ap_revL, ap_star,
  r_I, r_I0, r_U, r_eq, r_ne, r_isi, r_ixT, r_ixL, r_gcd, r_comb, r_sumT, r_sum, r_app, ap_dcT, ap_dispT, ap_dnewT, ap_dget, ap_dget2, ap_dput, w_itemsT, w_keys, r_rep, r_sorted, r_slL, r_in, ap_lc2, w_enumT, ap_for, ap_lc, w_tup, w_list, w_r1, w_r2, w_enum, w_zip, cx_K, cx_Kn, wipe,
  L2.start, List.length_cons, List.length_nil, List.map_cons, List.map_nil, List.cons_append, List.nil_append, List.replicate, Nat.zero_add, Nat.reduceAdd, Nat.reduceSub, List.set_cons_zero, List.set_cons_succ,
  List.getElem?_cons_zero, List.getElem?_cons_succ, Option.some.injEq, V.int.injEq, V.bl.injEq, V.str.injEq, V.ref.injEq, exists_eq_left, exists_eq_left', List.cons.injEq, and_true, true_and, and_assoc, scal, exists_and_left, decide_eq_true_eq, bne_iff_ne, Bool.not_eq_true', decide_eq_false_iff_not, if_true, if_false, Bool.false_eq_true, Bool.true_eq_false, if_pos, ite_true, ite_false, Bool.not_true, Bool.not_false])
section
variable {P : Program} {w : World} {K : PySem.W.Frag} {mg : Str → Option Value} {base : Heap}
theorem ok_put_in (T : Tx K mg) (c_beads_in : Cal P w K mg base 1 "beads_in" spBeads) (c_lot_in : Cal P w K mg base 1 "lot_in" spLotIn) (D : DefAt K mg "put_in" s_put_in) : Cal P w K mg base 2 "put_in" spPut := by
  refine cal_of D (fun _ _ _ _ _ _ us hl => match us, hl with | [_, _], _ => rfl) sc_put_in (fun vs H Q E h => ?_) fun f cdv A outer s H vs Q E hr h => ?_
  · obtain ⟨v, l, n, rfl, tl, hl, hn, q⟩ := h
    rfl
  · obtain ⟨v, l, n, rfl, tl, hl, hn, q⟩ := h
    refine ⟨_, (pss_cons (ps_par (i := 2) (j := 3) rfl sc_put_in.nd rfl rfl (by decide) rfl rfl (pa_cons (pe_c c_beads_in hr (by decide) (by rfl) (pa_cons (pv 0) (pa_cons (pe_op op_add (pe_callB call_len (by rfl) T.len (by decide +kernel) (pa_cons (pv 0) pa_nil)) (pv 1)) pa_nil))) (pa_cons (pe_lst pa_nil) pa_nil)) (by rfl))
        (pss_cons (ps_for PassesOwn.never rfl (pi_enum (by rfl) T.enumerate (pa_cons (pv 2) pa_nil)) (pg_tup (by rfl) (pgs_cons (pg_name (i := 4) sc_put_in.nd rfl (Or.inl rfl)) (pgs_cons (pg_name (i := 5) sc_put_in.nd rfl (Or.inr rfl)) pgs_nil))) (pss_cons (ps_set (i := 6) sc_put_in.nd rfl (Or.inr rfl) (pe_op op_add (pv 5) (pv 1)))
        (pss_one (ps_if (pt_cmpR op_notIn_seq (pv 6) (pv 2) (by rfl)) (pss_cons (ps_set (i := 7) sc_put_in.nd rfl (Or.inl rfl) (pe_callB call_len (by rfl) T.len (by decide +kernel) (pa_cons (pe_lc (own := [("one", 8)]) (g := gName 8) rfl sc_put_in.nd (pi_list (pv 2)) (blkOk_by (N := ["shape", "length", "beads", "found", "at", "bead", "higher", "between", "one"]) (sc := defScope s_put_in) (by decide +kernel)) (fun _ _ _ _ _ => (pg_name (i := 8) sc_put_in.nd rfl (Or.inl rfl))) (fun _ _ _ _ _ => (pts_one (pt_chain op_lt op_lt (pv 5) (pv 8) (pv 6)))) (fun _ _ _ _ _ => (pv 8))) pa_nil)))
        (pss_one (ps_expr (pe_bm PySem.F.plainAttrs_list PySem.F.slot_list_append PySem.F.type_list_append mt_append (pv 3) (pa_cons (pe_tup (pa_cons (pe_c c_lot_in hr (by decide) (by rfl) (pa_cons (pe_lst (StX.pa_star (pe_slice sl_list (pv 2) po_none (po_some (pv 4))) (pa_cons (pv 6) (StX.pa_star (pe_slice sl_list (pv 2) (po_some (pe_op op_add (pv 4) pe_int)) po_none) pa_nil)))) pa_nil)) (pa_cons (pe_op op_sub pe_int (pe_op op_mulW pe_int (pe_op op_mod (pv 7) pe_int))) pa_nil))) pa_nil))))) pss_nil))))
        (pss_one (ps_ret (pv 3))))), ?_⟩
    walk_at "rd"
    refine ⟨_, lenTI tl, v, l, l.length + n, rfl, tl, by omega, by omega, fun pb Hb sb eb => ⟨by decide, fun fa hfa => ?_⟩⟩
    generalize hbs : beadsM l (l.length + n) = bs at eb
    have hbl : bs.length = l.length + n := by rw [← hbs]; exact beadsM_len (by omega)
    have ebf : upd Hb fa (.lst []) pb = some (.lst (bs.map V.int)) := same_upd hfa _ _ eb
    refine ⟨_, rfl, _, SqL.of' ebf, ?_⟩
    refine for_it walk_enum (fun i σ H' => Mk1 PSg (fun i => (List.range i).flatMap (putOne bs n)) Hb fa i H' ∧ ∃ a b c d, σ = [some v, some (.int n), some (.ref pb), some (.ref fa), a, b, c, d, none]) ⟨Mk1.zero rfl hfa, _, _, _, _, rfl⟩ (fun i σ H' _ p => SqL.of' (p.1.same _ _ eb)) ?_ ?_
    · rintro i x σ H2 H3 hi ⟨mk, a, b, c, d, rfl⟩ ⟨T0, x1, x2, rfl, hT, rfl, hx1, hx2⟩
      cases hx1
      obtain ⟨m, hm, rfl, hmem⟩ := at_ints hx2
      have hi' : i < bs.length := by simpa using hi
      have hgd : bs.getD i 0 = m := by rw [List.getD_eq_getElem?_getD, hm]; rfl
      walk_at "rd"
      refine ⟨_, SqT.of' upd_same, rfl, _, _, rfl, _, _, rfl, rfl, ?_⟩
      walk_at "rd"
      have s3 : Same H2 (upd H2 T0 (.tup [.int i, .int m])) := same_upd hT
      generalize upd H2 T0 (.tup [.int i, .int m]) = H4 at s3 ⊢
      have e4 := s3 _ _ (mk.same _ _ eb)
      refine ⟨_, .inl (SqL.of' e4), rfl, flat_ints _, ?_⟩
      rw [inV_ints]
      by_cases hin : m + n ∈ bs
      · rw [decide_eq_true hin]
        rw [if_neg (by decide)]
        refine ⟨mk.skip keeps_PSg s3 ?_, _, rfl⟩
        show (List.range (i + 1)).flatMap (putOne bs n) = _
        rw [range_flat]
        unfold putOne
        simp only [hgd]
        rw [if_pos hin, List.append_nil]
      · rw [decide_eq_false hin]
        simp only [Bool.not_false, if_true]
        refine ⟨⟨_, SqL.of' e4⟩, fun D hD => ?_⟩
        refine lc_it walk_list (Mk1 (fun _ v d => v = .int d) (fun k => (bs.take k).filter fun o => decide (m < o) && decide (o < m + n)) H4 D) (Mk1.zero rfl hD) (fun k H5 _ p5 => SqL.of' (p5.same _ _ e4)) ?_ ?_
        · rintro k x H5 H6 hk p5 ⟨rfl, hx⟩
          obtain ⟨o, ho, rfl, _⟩ := at_ints hx
          have ro := take_filter (f := fun o => decide (m < o) && decide (o < m + (n : Int))) ho
          have small : ((bs.take k).filter fun o => decide (m < o) && decide (o < m + (n : Int))).length < sizeLine := by
            have h1 := List.length_filter_le (fun o => decide (m < o) && decide (o < m + (n : Int))) (bs.take k)
            have h2 : (bs.take k).length ≤ bs.length := by rw [List.length_take]; omega
            exact small1000 (by omega)
          walk_at "rd"
          by_cases h1 : m < o
          · rw [if_pos h1]
            by_cases h2 : o < m + n
            · rw [if_pos h2]
              exact p5.push keeps_int hD Same.refl rfl (by show _ = _; rw [ro, if_pos (by simp [h1, h2])]) small
            · rw [if_neg h2]
              exact p5.skip keeps_int Same.refl (by show _ = _; rw [ro, if_neg (by simp [h2]), List.append_nil])
          · rw [if_neg h1]
            exact p5.skip keeps_int Same.refl (by show _ = _; rw [ro, if_neg (by simp [h1]), List.append_nil])
        · intro H5 p5
          have eD := p5.ints
          rw [List.length_map, List.take_length] at eD
          have s5 : Same H2 H5 := Same.trans s3 p5.same
          have e5 := p5.same _ _ e4
          obtain ⟨acc, hacc, _⟩ := mk.acc
          refine ⟨_, .inl ⟨_, SqL.of' eD, rfl⟩, .inl ⟨rfl, _, SqL.of' (s5 _ _ hacc)⟩, _, SqL.of' e5, fun p1 hp1 => ?_⟩
          have e6 : (upd H5 p1 (.lst (cutV (bs.map V.int) none (some (i : Int))))) pb = some (.lst (bs.map V.int)) := same_upd hp1 _ _ e5
          refine ⟨_, .inr (SqL.of' upd_same), _, SqL.of' e6, fun p2 hp2 => ⟨_, .inr (SqL.of' upd_same), ?_, fun p3 hp3 => ?_⟩⟩
          · have h1 : (cutV (bs.map V.int) none (some (i : Int))).length ≤ 20 := by rw [cut_take (by simp; omega), List.length_take, List.length_map]; omega
            have h2 : (cutV (bs.map V.int) (some ((i : Int) + 1)) none).length ≤ 20 := by rw [show ((i : Int) + 1) = ((i + 1 : Nat) : Int) by omega, cut_drop (by simp; omega), List.length_drop, List.length_map]; omega
            simp only [List.length_append, List.length_cons, List.length_nil]
            exact Nat.le_of_lt (small1000 (by omega))
          · have el : cutV (bs.map V.int) none (some (i : Int)) ++ V.int (m + n) :: (cutV (bs.map V.int) (some ((i : Int) + 1)) none ++ []) = (bs.take i ++ (m + n) :: bs.drop (i + 1)).map V.int := by
              rw [show ((i : Int) + 1) = ((i + 1 : Nat) : Int) by omega, cut_take (by simp; omega), cut_drop (by simp; omega), List.append_nil]
              simp
            rw [el]
            have s6 : Same H5 (upd (upd (upd H5 p1 (.lst (cutV (bs.map V.int) none (some (i : Int))))) p2 (.lst (cutV (bs.map V.int) (some ((i : Int) + 1)) none))) p3 (.lst ((bs.take i ++ (m + n) :: bs.drop (i + 1)).map V.int))) := Same.upd (Same.upd (same_upd hp1) hp2) hp3
            have e7 : (upd (upd (upd H5 p1 (.lst (cutV (bs.map V.int) none (some (i : Int))))) p2 (.lst (cutV (bs.map V.int) (some ((i : Int) + 1)) none))) p3 (.lst ((bs.take i ++ (m + n) :: bs.drop (i + 1)).map V.int))) p3 = some (.lst ((bs.take i ++ (m + n) :: bs.drop (i + 1)).map V.int)) := upd_same
            generalize (upd (upd (upd H5 p1 (.lst (cutV (bs.map V.int) none (some (i : Int))))) p2 (.lst (cutV (bs.map V.int) (some ((i : Int) + 1)) none))) p3 (.lst ((bs.take i ++ (m + n) :: bs.drop (i + 1)).map V.int))) = H7 at s6 e7 ⊢
            refine ⟨p3, _, rfl, e7, ?_, fun v8 H8 s8 t8 => ?_⟩
            · simp
              omega
            obtain ⟨qa, rfl, hqa⟩ := t8
            refine ⟨by decide, wide_mul (a := 8) (b := 8) (by decide) (by omega) (by decide) (by decide) (by decide), by decide, fun t ht => ?_⟩
            have ro : (List.range (i + 1)).flatMap (putOne bs n) = (List.range i).flatMap (putOne bs n) ++ [(lotInM (bs.take i ++ (m + n) :: bs.drop (i + 1)), 1 - 2 * (((bs.filter fun o => decide (m < o) && decide (o < m + (n : Int))).length : Int) % 2))] := by
              rw [range_flat]
              congr 1
              unfold putOne
              simp only [hgd]
              rw [if_neg hin]
            have small : ((List.range i).flatMap (putOne bs n)).length < sizeLine := by
              have := put_len bs n i
              exact small1000 (by omega)
            have r : PSg (upd H8 t (.tup [.ref qa, .int (1 - 2 * ((((bs.filter fun o => decide (m < o) && decide (o < m + (n : Int))).map V.int).length : Int) % 2))])) (.ref t) (lotInM (bs.take i ++ (m + n) :: bs.drop (i + 1)), 1 - 2 * (((bs.filter fun o => decide (m < o) && decide (o < m + (n : Int))).length : Int) % 2)) :=
              ⟨t, qa, rfl, by rw [upd_same, List.length_map], same_upd ht _ _ hqa⟩
            obtain ⟨ac, h1, h2, h3⟩ := mk.push keeps_PSg hfa (Same.trans s5 (Same.trans s6 (Same.upd s8 ht))) r ro small
            exact ⟨ac, h1, h2, h3, _, rfl⟩
    · rintro σ H2 ⟨mk, a, b, c, d, rfl⟩
      walk_at "rd"
      obtain ⟨acc, h1, h2⟩ := mk.acc
      refine q fa H2 acc (Same.trans sb mk.same) h1 ?_
      rw [List.length_map] at h2
      unfold putM
      rw [hbs]
      exact h2
end
end K53
namespace K53
open PySem PySem.Spec PyProof.Rows L2
local macro_rules | `(tactic| walk_at "rd") => `(tactic| simp only [ap_seq, ap_next, ap_drop, ap_ret, ap_retN, ap_ifS, ap_asg, ap_par, ap_par3, ap_aug, ap_nm, ap_test, ap_tB, ap_and, ap_or, ap_not, ap_if, ap_andV, ap_notV, ap_op, ap_un, ap_c, ap_var, ap_nil, ap_cons, ap_tup, ap_lst, ap_cl, ap_cb, ap_bm, ap_bm0, ap_sl, ap_nopart, ap_part, ap_never, ap_chain, ap_fld, ap_gtup, ap_gcons, ap_gnil, ap_yes, ap_revL, ap_star,
  r_I, r_I0, r_U, r_eq, r_ne, r_isi, r_ixT, r_ixL, r_gcd, r_comb, r_sumT, r_sum, r_app, ap_dcT, ap_dispT, ap_dnewT, ap_dget, ap_dget2, ap_dput, w_itemsT, w_keys, r_rep, r_sorted, r_slL, r_in, ap_lc2, w_enumT, ap_for, ap_lc, w_tup, w_list, w_r1, w_r2, w_enum, w_zip, cx_K, cx_Kn, wipe,
  L2.start, List.length_cons, List.length_nil, List.map_cons, List.map_nil, List.cons_append, List.nil_append, List.replicate, Nat.zero_add, Nat.reduceAdd, Nat.reduceSub, List.set_cons_zero, List.set_cons_succ,
  List.getElem?_cons_zero, List.getElem?_cons_succ, Option.some.injEq, V.int.injEq, V.bl.injEq, V.str.injEq, V.ref.injEq, exists_eq_left, exists_eq_left', List.cons.injEq, and_true, true_and, and_assoc, scal, exists_and_left, decide_eq_true_eq, bne_iff_ne, Bool.not_eq_true', decide_eq_false_iff_not, if_true, if_false, Bool.false_eq_true, Bool.true_eq_false, if_pos, ite_true, ite_false, Bool.not_true, Bool.not_false])
section
variable {P : Program} {w : World} {K : PySem.W.Frag} {mg : Str → Option Value} {base : Heap}
theorem ok_reached_in (c_put_in : Cal P w K mg base 2 "put_in" spPut) (D : DefAt K mg "reached_in" s_reached_in) : Cal P w K mg base 3 "reached_in" spReached := by
  refine cal_of D (fun _ _ _ _ _ _ us hl => match us, hl with | [_], _ => rfl) sc_reached_in (fun vs H Q E h => ?_) fun f cdv A outer s H vs Q E hr h => ?_
  · obtain ⟨v, l, rfl, ⟨a, rfl, e⟩, ti, q⟩ := h
    rfl
  · obtain ⟨v, l, rfl, ⟨a, rfl, e⟩, ti, q⟩ := h
    refine ⟨_, (pss_cons (ps_set (i := 1) sc_reached_in.nd rfl (Or.inl rfl) (pe_dispT (hu_of hr) (pe_tup pa_nil) pe_int))
        (pss_cons (ps_for PassesOwn.never rfl (pi_tup (pv 0)) (pg_name (i := 2) sc_reached_in.nd rfl (Or.inl rfl)) (pss_cons (ps_set (i := 3) sc_reached_in.nd rfl (Or.inl rfl) pe_dnewT)
        (pss_cons (ps_lock (ps_for PassesOwn.never rfl (pi_itemsT (pv 1)) (pg_tup (by rfl) (pgs_cons (pg_name (i := 4) sc_reached_in.nd rfl (Or.inl rfl)) (pgs_cons (pg_name (i := 5) sc_reached_in.nd rfl (Or.inl rfl)) pgs_nil))) (pss_one (ps_for PassesOwn.never rfl (pi_list (pe_c c_put_in hr (by decide) (by rfl) (pa_cons (pv 4) (pa_cons (pv 2) pa_nil)))) (pg_tup (by rfl) (pgs_cons (pg_name (i := 6) sc_reached_in.nd rfl (Or.inl rfl)) (pgs_cons (pg_name (i := 7) sc_reached_in.nd rfl (Or.inl rfl)) pgs_nil))) (pss_one (ps_dput (hu_of hr) (pv 3) (pv 6) (pe_op op_add (pe_dget2 (hu_of hr) (pv 3) (pv 6) pe_int ⟨by rfl, by rfl, by rfl, by rfl⟩) (pe_op op_mulW (pv 7) (pv 5))) rfl))))))
        (pss_one (ps_set (i := 1) sc_reached_in.nd rfl (Or.inl rfl) (pv 3))))))
        (pss_one (ps_ret (pv 1))))), ?_⟩
    walk_at "rd"
    refine fun d0 hd0 => ⟨by decide, fun t ht => ⟨[], ?_, ?_, ?_⟩⟩
    · exact upd_same
    · exact same_upd ht _ _ upd_same
    have s0 : Same H (upd (upd (upd H d0 (.dT [])) t (.tup [])) d0 (.dT [([], .int 1)])) := fun b o eb => by
      rw [upd_ne (ne_of_none eb hd0)]
      exact Same.upd (same_upd hd0) ht _ _ eb
    have e0 : (upd (upd (upd H d0 (.dT [])) t (.tup [])) d0 (.dT [([], .int 1)])) d0 = some (.dT (enc (reachM (l.take 0)))) := upd_same
    generalize (upd (upd (upd H d0 (.dT [])) t (.tup [])) d0 (.dT [([], .int 1)])) = H0 at s0 e0 ⊢
    refine ⟨⟨_, SqT.rd (Rd.same s0 e)⟩, for_it walk_tup (fun i σ H' => (∃ d b1 b2 b3 b4 b5 b6, σ = [some (.ref a), some (.ref d), b1, b2, b3, b4, b5, b6] ∧ H d = none ∧ Same H H' ∧ H' d = some (.dT (enc (reachM (l.take i))))) ∧ Uniq (reachM (l.take i))) ⟨⟨d0, _, _, _, _, _, _, rfl, hd0, s0, e0⟩, by simp [Uniq, reachM]⟩ (fun i σ H' _ p => by obtain ⟨⟨_, _, _, _, _, _, _, _, _, s1, _⟩, _⟩ := p; exact SqT.rd (Rd.same s1 e)) ?_ ?_⟩
    · rintro i x σ H1 H2 hi ⟨⟨d, b1, b2, b3, b4, b5, b6, rfl, hd, s1, e1⟩, hu⟩ ⟨rfl, hx⟩
      obtain ⟨m, hm, rfl, hmem⟩ := at_ints hx
      have hti := (ti.take i).reach
      have hmb := ti.mem hmem
      obtain ⟨n, rfl⟩ : ∃ n : Nat, m = (n : Int) := ⟨m.toNat, by omega⟩
      have hre : reachM (l.take (i + 1)) = reachStep (reachM (l.take i)) ((n : Int)).toNat := by rw [take_push hm, reach_push]
      rw [Int.toNat_natCast] at hre
      rw [hre]
      clear hre
      generalize reachM (l.take i) = found at e1 hti hu ⊢
      walk_at "rd"
      refine fun ld hld => ?_
      refine ⟨d, _, same_upd hld _ _ e1, trivial, fun od => ?_⟩
      walk_at "rd"
      have hld0 : H ld = none := Same.no s1 hld
      have ndl : d ≠ ld := fun z => by rw [z, hld] at e1; cases e1
      have e3d : (upd (upd H2 ld (.dT [])) d (.frz od (.dT (enc found)))) d = some (.frz od (.dT (enc found))) := upd_same
      have e3l : (upd (upd H2 ld (.dT [])) d (.frz od (.dT (enc found)))) ld = some (.dT (enc [])) := by rw [upd_ne (Ne.symm ndl), upd_same]; rfl
      have s3 : Same H (upd (upd H2 ld (.dT [])) d (.frz od (.dT (enc found)))) := fun b o eb => by
        rw [upd_ne (ne_of_none eb hd), upd_ne (ne_of_none eb hld0)]
        exact s1 _ _ eb
      generalize (upd (upd H2 ld (.dT [])) d (.frz od (.dT (enc found)))) = H3 at e3d e3l s3 ⊢
      let stp : List (LI × Int) → LI × Int → List (LI × Int) := fun later sn => (putM sn.1 n).foldl (fun later ms => addTo later ms.1 (ms.2 * sn.2)) later
      refine ⟨od, _, e3d, for_it walk_itemsT (fun j σ H' => (∃ b4 b5 b6 b7, σ = [some (.ref a), some (.ref d), some (.int n), some (.ref ld), b4, b5, b6, b7]) ∧ SameX ld H3 H' ∧ H' ld = some (.dT (enc ((found.take j).foldl stp []))) ∧ Uniq ((found.take j).foldl stp []) ∧ ((found.take j).foldl stp []).length ≤ 20 * j) ⟨⟨_, _, _, _, rfl⟩, SameX.refl, e3l, by simp [Uniq], by simp⟩ (fun j σ H' _ p => p.2.1 _ _ ndl e3d) ?_ ?_⟩
      · rintro j x σ H4 H5 hj ⟨⟨b4, b5, b6, b7, rfl⟩, s4, e4, u4, l4⟩ ⟨T, qk, k, vv, hkv, rfl, hT, hqk, rfl⟩
        obtain ⟨sn, hsn, rfl, rfl⟩ : ∃ sn, found[j]? = some sn ∧ k = key sn.1 ∧ vv = .int sn.2 := by
          unfold enc at hkv
          rw [List.getElem?_map] at hkv
          cases ef : found[j]? with
          | none => rw [ef] at hkv; cases hkv
          | some sn => rw [ef] at hkv; cases hkv; exact ⟨sn, rfl, rfl, rfl⟩
        have hb := hti.2 sn (List.mem_of_getElem? hsn)
        have hj20 : j < 20 := by rw [enc_len] at hj; omega
        have fo : (found.take (j + 1)).foldl stp [] = stp ((found.take j).foldl stp []) sn := by
          rw [take_push hsn, List.foldl_append]
          rfl
        rw [fo]
        generalize (found.take j).foldl stp [] = later at e4 u4 l4 ⊢
        rw [key_kV] at hqk
        walk_at "rd"
        have s5 : Same H4 (upd H4 T (.tup [.ref qk, .int sn.2])) := same_upd hT
        refine ⟨_, SqT.of' upd_same, rfl, _, _, rfl, _, _, rfl, rfl, ?_⟩
        generalize (upd H4 T (.tup [.ref qk, .int sn.2])) = H5 at s5 ⊢
        refine ⟨.ref qk, sn.1, n, rfl, ⟨qk, rfl, s5 _ _ hqk⟩, hb.1, by omega, fun pp H6 xs s6 e6 px => ⟨pp, rfl, ⟨_, SqL.of' e6⟩, ?_⟩⟩
        have e6l : H6 ld = some (.dT (enc later)) := s6 _ _ (s5 _ _ e4)
        have nlp : pp ≠ ld := fun z => by rw [z, e6l] at e6; cases e6
        have pl : (putM sn.1 n).length ≤ 20 := by
          unfold putM
          refine Nat.le_trans (put_len _ _ _) ?_
          rw [beadsM_len (by omega)]
          omega
        refine for_it walk_list (fun k σ H' => (∃ b6 b7, σ = [some (.ref a), some (.ref d), some (.int n), some (.ref ld), some (.ref qk), some (.int sn.2), b6, b7]) ∧ SameX ld H6 H' ∧ H' ld = some (.dT (enc (((putM sn.1 n).take k).foldl (fun later ms => addTo later ms.1 (ms.2 * sn.2)) later))) ∧ Uniq (((putM sn.1 n).take k).foldl (fun later ms => addTo later ms.1 (ms.2 * sn.2)) later) ∧ (((putM sn.1 n).take k).foldl (fun later ms => addTo later ms.1 (ms.2 * sn.2)) later).length ≤ 20 * j + k) ⟨⟨_, _, rfl⟩, SameX.refl, e6l, u4, l4⟩ (fun k σ H' _ p => SqL.of' (p.2.1 _ _ nlp e6)) ?_ ?_
        · rintro k x σ H7 H8 hk ⟨⟨c6, c7, rfl⟩, s7, e7, u7, l7⟩ ⟨rfl, hx⟩
          obtain ⟨ms, hms, t2, a2, rfl, ht2, ha2⟩ := paired_at px hx
          have fo2 : ((putM sn.1 n).take (k + 1)).foldl (fun later ms => addTo later ms.1 (ms.2 * sn.2)) later = addTo (((putM sn.1 n).take k).foldl (fun later ms => addTo later ms.1 (ms.2 * sn.2)) later) ms.1 (ms.2 * sn.2) := by
            rw [take_push hms, List.foldl_append]
            rfl
          rw [fo2]
          generalize ((putM sn.1 n).take k).foldl (fun later ms => addTo later ms.1 (ms.2 * sn.2)) later = lat at e7 u7 l7 ⊢
          have ht7 := s7 t2 _ (fun z => by rw [z, e6l] at ht2; cases ht2) ht2
          have ha7 := s7 a2 _ (fun z => by rw [z, e6l] at ha2; cases ha2) ha2
          have sgn : ms.2.natAbs < 2 ^ 8 := put_sign _ _ ms (List.mem_of_getElem? hms)
          walk_at "rd"
          refine ⟨_, SqT.of' ht7, rfl, _, _, rfl, _, _, rfl, rfl, ?_⟩
          walk_at "rd"
          have kk : H8 a2 = some (.tup ((key ms.1).map kV)) := by rw [key_kV]; exact ha7
          refine ⟨.inr ⟨_, .inl e7⟩, _, DGet.t e7 kk, wide_mul sgn (show sn.2.natAbs < 2 ^ 10 by omega) (by decide) (by decide) (by decide), _, val_enc _ _, _, DPut.t e7 kk ?_, ⟨_, rfl⟩, ?_, ?_, addTo_uniq u7 _ _, ?_⟩
          · rw [enc_len]
            have : k < 20 := by rw [paired_len px] at hk; omega
            exact small1000 (by omega)
          · exact SameX.trans s7 SameX.upd
          · rw [upd_same, put_addTo u7]
          · have := addTo_len ms.1 (ms.2 * sn.2) lat
            omega
        · rintro σ H7 ⟨⟨c6, c7, rfl⟩, s7, e7, u7, l7⟩
          have hpl := paired_len px
          rw [hpl, List.take_length] at e7 u7 l7
          refine ⟨⟨_, _, _, _, rfl⟩, fun b o n1 eb => s7 _ _ n1 (s6 _ _ (s5 _ _ (s4 _ _ n1 eb))), e7, u7, ?_⟩
          show ((putM sn.1 n).foldl _ later).length ≤ _
          omega
      · rintro σ H4 ⟨⟨b4, b5, b6, b7, rfl⟩, s4, e4, u4, l4⟩
        rw [enc_len, List.take_length] at e4 u4
        walk_at "rd"
        refine ⟨s4 _ _ ndl e3d, hld0, fun b o eb => ?_, ?_, u4⟩
        · rw [upd_ne (ne_of_none eb hd)]
          exact s4 _ _ (ne_of_none eb hld0) (s3 _ _ eb)
        · rw [upd_ne (Ne.symm ndl)]
          exact e4
    · rintro σ H1 ⟨⟨d, b1, b2, b3, b4, b5, b6, rfl, hd, s1, e1⟩, _⟩
      walk_at "rd"
      refine q d H1 s1 ?_
      rw [List.length_map, List.take_length] at e1
      exact e1
end
end K53
namespace K53
open PySem PySem.Spec PyProof.Rows L2
local macro_rules | `(tactic| walk_at "rd") => `(tactic| simp only [ap_seq, ap_next, ap_drop, ap_ret, ap_retN, ap_ifS, ap_asg, ap_par, ap_par3, ap_aug, ap_nm, ap_test, ap_tB, ap_and, ap_or, ap_not, ap_if, ap_andV, ap_notV, ap_op, ap_un, ap_c, ap_var, ap_nil, ap_cons, ap_tup, ap_lst, ap_cl, ap_cb, ap_bm, ap_bm0, ap_sl, ap_nopart, ap_part, ap_never, ap_chain, ap_fld, ap_gtup, ap_gcons, ap_gnil, ap_yes, ap_revL, ap_star,
  r_I, r_I0, r_U, r_eq, r_ne, r_isi, r_ixT, r_ixL, r_gcd, r_comb, r_sumT, r_sum, r_app, ap_dcT, ap_dispT, ap_dnewT, ap_dget, ap_dget2, ap_dput, w_itemsT, w_keys, r_rep, r_sorted, r_slL, r_in, ap_lc2, w_enumT, ap_for, ap_lc, w_tup, w_list, w_r1, w_r2, w_enum, w_zip, cx_K, cx_Kn, wipe,
  L2.start, List.length_cons, List.length_nil, List.map_cons, List.map_nil, List.cons_append, List.nil_append, List.replicate, Nat.zero_add, Nat.reduceAdd, Nat.reduceSub, List.set_cons_zero, List.set_cons_succ,
  List.getElem?_cons_zero, List.getElem?_cons_succ, Option.some.injEq, V.int.injEq, V.bl.injEq, V.str.injEq, V.ref.injEq, exists_eq_left, exists_eq_left', List.cons.injEq, and_true, true_and, and_assoc, scal, exists_and_left, decide_eq_true_eq, bne_iff_ne, Bool.not_eq_true', decide_eq_false_iff_not, if_true, if_false, Bool.false_eq_true, Bool.true_eq_false, if_pos, ite_true, ite_false, Bool.not_true, Bool.not_false])
section
variable {P : Program} {w : World} {K : PySem.W.Frag} {mg : Str → Option Value} {base : Heap}
theorem ok_column_in (T : Tx K mg) (c_reached_in : Cal P w K mg base 3 "reached_in" spReached) (c_lots : Cal P w K mg base 5 "lots" spLots) (D : DefAt K mg "column_in" s_column_in) : Cal P w K mg base 6 "column_in" spColumn := by
  refine cal_of D (fun _ _ _ _ _ _ us hl => match us, hl with | [_], _ => rfl) sc_column_in (fun vs H Q E h => ?_) fun f cdv A outer s H vs Q E hr h => ?_
  · obtain ⟨v, l, rfl, tl, ti, q⟩ := h
    rfl
  · obtain ⟨v, l, rfl, tl, ti, q⟩ := h
    refine ⟨_, (pss_cons (ps_set (i := 1) sc_column_in.nd rfl (Or.inr rfl) (pe_c c_reached_in hr (by decide) (by rfl) (pa_cons (pv 0) pa_nil)))
        (pss_one (ps_ret (pe_dcT (own := [("shape", 2)]) (g := gName 2) hr.units0 rfl sc_column_in.nd (pi_tup (pe_c c_lots hr (by decide) (by rfl) (pa_cons (pe_callB (cr_sumT rfl) (by rfl) T.sum (by decide +kernel) (pa_cons (pv 0) pa_nil)) pa_nil))) (blkOk_by (N := ["lot", "found", "shape"]) (sc := defScope s_column_in) (by decide +kernel)) (fun _ _ _ _ _ => (pg_name (i := 2) sc_column_in.nd rfl (Or.inl rfl))) (fun _ _ _ _ _ => (pv 2)) (fun _ _ _ _ _ => (pe_dget2 (hu_of hr) (pv 1) (pv 2) pe_int ⟨by rfl, by rfl, by rfl, by rfl⟩)))))), ?_⟩
    walk_at "rd"
    refine ⟨v, l, rfl, tl, ti, fun d H1 s1 e1 => ?_⟩
    obtain ⟨a, rfl, ea⟩ := tl.mono s1
    walk_at "rd"
    obtain ⟨n, hn⟩ : ∃ n : Nat, l.sum = n := ⟨l.sum.toNat, by have := ti.sum; omega⟩
    have hn7 : n ≤ 7 := by have := ti.sum; omega
    refine ⟨l, SqT.rd ea, n, by rw [hn], hn7, fun p H2 xs s2 e2 px => ⟨p, rfl, ⟨_, SqT.of' e2⟩, fun D hD => ?_⟩⟩
    have hcol : colM l = (lotsM n).map fun s => (s, look 0 (reachM l) s) := by
      unfold colM
      rw [hn]
      rfl
    have hxl := paired_len px
    refine dcT_it walk_tup (fun i H' => Same H2 H' ∧ H' D = some (.dT (enc ((colM l).take i)))) ⟨same_upd hD, upd_same⟩ (fun i H' _ p => SqT.of' (p.1 _ _ e2)) ?_ ?_
    · rintro i x H3 H4 hi ⟨s3, e3⟩ ⟨rfl, hx⟩
      obtain ⟨s, hs, b, rfl, hb⟩ := paired_at px hx
      have e1' := s3 _ _ (s2 _ _ e1)
      have kk : H4 b = some (.tup ((key s).map kV)) := by rw [key_kV]; exact s3 _ _ hb
      walk_at "rd"
      refine ⟨.inr ⟨_, .inl e1'⟩, _, DGet.t e1' kk, _, _, kk, e3, ?_, ?_, ?_⟩
      · rw [enc_len, List.length_take]
        have := lots_len n hn7
        exact small1000 (by omega)
      · exact fun b o eb => by
          rw [upd_ne (ne_of_none eb hD)]
          exact s3 _ _ eb
      · rw [upd_same, val_enc, put_new, take_push]
        · rw [hcol, List.getElem?_map, hs]
          rfl
        · intro z
          rw [hcol, ← List.map_take, List.map_map] at z
          obtain ⟨s', hs', e⟩ := List.mem_map.mp z
          obtain rfl : s' = s := e
          have nd := lots_nodup n hn7
          obtain ⟨h1, h2⟩ := List.getElem?_eq_some_iff.mp hs
          obtain ⟨j, hj, e2⟩ := List.mem_iff_getElem.mp hs'
          rw [List.length_take] at hj
          rw [List.getElem_take] at e2
          have := (List.getElem_inj nd).mp (e2.trans h2.symm)
          omega
    · rintro H3 ⟨s3, e3⟩
      refine q D H3 (Same.trans s1 (Same.trans s2 s3)) ?_
      rw [e3, List.take_of_length_le]
      rw [hcol, List.length_map, hxl]
      exact Nat.le_refl _
theorem ok_pairs_in (c_column_in : Cal P w K mg base 6 "column_in" spColumn) (c_contents_in : Cal P w K mg base 2 "contents_in" spContents) (D : DefAt K mg "pairs_in" s_pairs_in) : Cal P w K mg base 7 "pairs_in" spPairs := by
  refine cal_of D (fun _ _ _ _ _ _ us hl => match us, hl with | [_, _], _ => rfl) sc_pairs_in (fun vs H Q E h => ?_) fun f cdv A outer s H vs Q E hr h => ?_
  · obtain ⟨v, l, u, m, rfl, tl, tm, ti, tj, es, q⟩ := h
    rfl
  · obtain ⟨v, l, u, m, rfl, tl, tm, ti, tj, es, q⟩ := h
    refine ⟨_, (pss_cons (ps_asg (pe_tup (pa_cons (pe_c c_column_in hr (by decide) (by rfl) (pa_cons (pv 0) pa_nil)) (pa_cons (pe_c c_column_in hr (by decide) (by rfl) (pa_cons (pv 1) pa_nil)) pa_nil))) (pg_tup (by rfl) (pgs_cons (pg_name (i := 2) sc_pairs_in.nd rfl (Or.inr rfl)) (pgs_cons (pg_name (i := 3) sc_pairs_in.nd rfl (Or.inr rfl)) pgs_nil))))
        (pss_cons (ps_lock (ps_setLc (i := 4) (own := [("shape", 5)]) (g := gName 5) rfl sc_pairs_in.nd rfl rfl (sw_true rfl rfl rfl (by decide +kernel)) (pi_keys (pv 2)) (blkOk_by (N := ["one", "other", "first", "last", "found", "shape", "number"]) (sc := defScope s_pairs_in) (by decide +kernel)) (fun _ _ _ _ _ => (pg_name (i := 5) sc_pairs_in.nd rfl (Or.inl rfl))) (fun _ _ _ _ _ => (pts_one (PW.pt (pw_and (pt_cmpR op_ne (pe_dget (hu_of hr) (pv 2) (pv 5) (fun _ _ => rfl)) pe_int (nomark _)) (pw_and1 (pt_cmpR op_ne (pe_dget (hu_of hr) (pv 3) (pv 5) (fun _ _ => rfl)) pe_int (nomark _))))))) (fun _ _ _ _ _ => (pe_tup (pa_cons (pv 5) (pa_cons (pe_op op_mulW (pe_dget (hu_of hr) (pv 2) (pv 5) (fun _ _ => rfl)) (pe_dget (hu_of hr) (pv 3) (pv 5) (fun _ _ => rfl))) pa_nil))))))
        (pss_one (ps_ret (pe_lc (own := [("shape", 5), ("number", 6)]) (g := gTup K 2 (gCons (gName 5) (gCons (gName 6) gNil))) (tt := tYes) rfl sc_pairs_in.nd (pi_list (pv 4)) (blkOk_by (N := ["one", "other", "first", "last", "found", "shape", "number"]) (sc := defScope s_pairs_in) (by decide +kernel)) (fun _ _ _ _ _ => (pg_tup (by rfl) (pgs_cons (pg_name (i := 5) sc_pairs_in.nd rfl (Or.inl rfl)) (pgs_cons (pg_name (i := 6) sc_pairs_in.nd rfl (Or.inl rfl)) pgs_nil)))) (fun _ _ _ _ _ => pts_nil) (fun _ _ _ _ _ => (pe_tup (pa_cons (pe_c c_contents_in hr (by decide) (by rfl) (pa_cons (pv 5) pa_nil)) (pa_cons (pv 6) pa_nil))))))))), ?_⟩
    walk_at "rd"
    refine ⟨v, l, rfl, tl, ti, fun da Ha sa ea => ⟨u, m, rfl, tm.mono sa, tj, fun db Hb sb eb => ⟨by decide, fun p hp => ?_⟩⟩⟩
    refine ⟨_, SqT.of' upd_same, rfl, _, _, rfl, _, _, rfl, rfl, ?_⟩
    have e1 : (upd Hb p (.tup [.ref da, .ref db])) da = some (.dT (enc (colM l))) := same_upd hp _ _ (sb _ _ ea)
    have e2 : (upd Hb p (.tup [.ref da, .ref db])) db = some (.dT (enc (colM m))) := same_upd hp _ _ eb
    have s1 : Same H (upd Hb p (.tup [.ref da, .ref db])) := Same.upd (Same.trans sa sb) hp
    generalize (upd Hb p (.tup [.ref da, .ref db])) = H1 at e1 e2 s1 ⊢
    refine ⟨da, _, e1, trivial, fun od => ?_⟩
    walk_at "rd"
    have fz1 : (upd H1 da (.frz od (.dT (enc (colM l))))) da = some (.frz od (.dT (enc (colM l)))) := upd_same
    have rd2 : Rd (upd H1 da (.frz od (.dT (enc (colM l))))) db (.dT (enc (colM m))) := by
      by_cases z : db = da
      · rw [z] at e2 ⊢
        rw [e1] at e2
        have e3 : enc (colM l) = enc (colM m) := by injection e2 with e2; injection e2
        exact .inr ⟨od, by rw [upd_same, e3]⟩
      · exact .inl (by rw [upd_ne z]; exact e2)
    have back : ∀ H3, Same (upd H1 da (.frz od (.dT (enc (colM l))))) H3 → Same H1 (upd H3 da (.dT (enc (colM l)))) := fun H3 s3 b o eb => by
      by_cases z : b = da
      · rw [z, upd_same, ← e1, ← z]
        exact eb
      · rw [upd_ne z]
        exact s3 _ _ (by rw [upd_ne z]; exact eb)
    generalize upd H1 da (.frz od (.dT (enc (colM l)))) = H2 at fz1 rd2 back ⊢
    have gen : ∀ x : LI, x ∈ lotsM l.sum.toNat → valV (enc (colM m)) (key x) = some (.int (look 0 (colM m) x)) := fun x hx => by
      refine val_enc_mem (n := 0) ?_
      rw [show lotsM l.sum.toNat = lotsM m.sum.toNat by rw [es], ← col_keys] at hx
      obtain ⟨p, hp, e⟩ := List.mem_map.mp hx
      exact ⟨p, hp, e⟩
    have hs7 : l.sum.toNat ≤ 7 := by have := ti.sum; omega
    have cl : (colM l).length ≤ 20 := by
      have := congrArg List.length (col_keys l)
      rw [List.length_map] at this
      rw [this]
      exact lots_len _ hs7
    let c : LI × Int → Bool := fun p => decide (p.2 ≠ 0) && decide (look 0 (colM m) p.1 ≠ 0)
    let r1 : LI × Int → LI × Int := fun p => (p.1, p.2 * look 0 (colM m) p.1)
    refine ⟨od, .inr ⟨_, fz1, fun D hD => ?_⟩⟩
    have nD : da ≠ D := fun z => by rw [z, hD] at fz1; cases fz1
    refine lc_it walk_keysT (Mk1 PSg (fun i => (((colM l).take i).filter c).map r1) H2 D) (Mk1.zero rfl hD) (fun i H3 _ mk => mk.same _ _ fz1) ?_ ?_
    · rintro i x H3 H4 hi mk ⟨rfl, k, vv, qk, hkv, rfl, hqk⟩
      obtain ⟨sn, hsn, rfl, rfl⟩ : ∃ sn, (colM l)[i]? = some sn ∧ k = key sn.1 ∧ vv = .int sn.2 := by
        unfold enc at hkv
        rw [List.getElem?_map] at hkv
        cases ef : (colM l)[i]? with
        | none => rw [ef] at hkv; cases hkv
        | some sn => rw [ef] at hkv; cases hkv; exact ⟨sn, rfl, rfl, rfl⟩
      have hmem := List.mem_of_getElem? hsn
      have hlk : sn.1 ∈ lotsM l.sum.toNat := by rw [← col_keys]; exact List.mem_map.mpr ⟨sn, hmem, rfl⟩
      have hqk' := hqk
      rw [key_kV] at hqk
      have g1 : DGet H4 da (.ref qk) (some (.int sn.2)) := .inr ⟨_, key sn.1, qk, .inr ⟨od, mk.same _ _ fz1⟩, rfl, hqk', by
        rw [val_enc_mem (n := 0) ⟨sn, hmem, rfl⟩, look_uniq (col_uniq ti) hmem]⟩
      have rd4 : Rd H4 db (.dT (enc (colM m))) := by
        rcases rd2 with z | ⟨o, z⟩
        · exact .inl (mk.same _ _ z)
        · exact .inr ⟨o, mk.same _ _ z⟩
      have g2 : DGet H4 db (.ref qk) (some (.int (look 0 (colM m) sn.1))) := .inr ⟨_, key sn.1, qk, rd4, rfl, hqk', (gen _ hlk).symm⟩
      have ro : (((colM l).take (i + 1)).filter c).map r1 = (((colM l).take i).filter c).map r1 ++ (if c sn = true then [r1 sn] else []) := by
        rw [take_filter hsn]
        split <;> simp
      have b1 := col_bd ti sn hmem
      have b2 : (look 0 (colM m) sn.1).natAbs < 1000 := look_bd (by decide) (col_bd tj)
      walk_at "rd"
      refine ⟨_, g1, rfl, ?_⟩
      by_cases z1 : sn.2 = 0
      · rw [if_neg (by simp [z1])]
        exact mk.skip keeps_PSg Same.refl (by show _ = _; rw [ro, if_neg (by simp [c, z1]), List.append_nil])
      · rw [if_pos (by simp [z1])]
        refine ⟨_, g2, rfl, ?_⟩
        by_cases z2 : look 0 (colM m) sn.1 = 0
        · rw [if_neg (by simp [z2])]
          exact mk.skip keeps_PSg Same.refl (by show _ = _; rw [ro, if_neg (by simp [c, z2]), List.append_nil])
        · rw [if_pos (by simp [z2])]
          refine ⟨_, g1, _, g2, _, rfl, _, rfl, wide_mul (a := 10) (b := 10) (by omega) (by omega) (by decide) (by decide) (by decide), by decide, fun t ht => mk.push keeps_PSg hD (same_upd ht) (d := r1 sn) ⟨t, qk, rfl, upd_same, same_upd ht _ _ hqk⟩ (by show _ = _; rw [ro, if_pos (by simp [c, z1, z2])]) ?_⟩
          rw [List.length_map]
          have h1 := List.length_filter_le c ((colM l).take i)
          have h2 : ((colM l).take i).length ≤ (colM l).length := by rw [List.length_take]; omega
          exact small1000 (by omega)
    · intro H3 mk
      obtain ⟨acc, hacc, pacc⟩ := mk.acc
      rw [enc_len, List.take_length] at pacc
      have s5 := back _ mk.same
      have e5 : (upd H3 da (.dT (enc (colM l)))) D = some (.lst acc) := by rw [upd_ne (Ne.symm nD)]; exact hacc
      have p5 : Paired (PSg (upd H3 da (.dT (enc (colM l))))) acc (((colM l).filter c).map r1) := paired_mono pacc fun v d h => by
        obtain ⟨t, a, e, h1, h2⟩ := h
        have f3 := mk.same _ _ fz1
        exact ⟨t, a, e, by rw [upd_ne (ne_of h1 f3 (by intro z; cases z))]; exact h1, by rw [upd_ne (ne_of h2 f3 (by intro z; cases z))]; exact h2⟩
      refine ⟨mk.same _ _ fz1, ?_⟩
      generalize (upd H3 da (.dT (enc (colM l)))) = H5 at s5 e5 p5 ⊢
      refine ⟨⟨_, SqL.of' e5⟩, fun D2 hD2 => ?_⟩
      have plen := paired_len p5
      refine lc_it walk_list (Mk1 (PCnX D2) (fun i => ((((colM l).filter c).map r1).take i).map fun p => (contM p.1, p.2)) H5 D2) (Mk1.zero rfl hD2) (fun i H6 _ mk => SqL.of' (mk.same _ _ e5)) ?_ ?_
      · rintro i x H6 H7 hi mk6 ⟨rfl, hx⟩
        obtain ⟨d, hd, t, a, rfl, ht, ha⟩ := paired_at p5 hx
        have hdm := List.mem_of_getElem? hd
        have td : Tiny d.1 := by
          obtain ⟨p, hp, rfl⟩ := List.mem_map.mp hdm
          have hp' : p.1 ∈ lotsM l.sum.toNat := by rw [← col_keys]; exact List.mem_map.mpr ⟨p, (List.mem_filter.mp hp).1, rfl⟩
          exact ⟨_, hs7, lots_sound hs7 hp'⟩
        walk_at "rd"
        refine ⟨_, SqT.of' (mk6.same _ _ ht), rfl, _, _, rfl, _, _, rfl, rfl, ?_⟩
        refine ⟨.ref a, d.1, rfl, ⟨a, rfl, mk6.same _ _ ha⟩, td, fun pc H8 n8 s8 e8 => ⟨by decide, fun t2 ht2 => ?_⟩⟩
        obtain ⟨ac6, hac6, _⟩ := mk6.acc
        have e68 := s8 _ _ hac6
        have npD : pc ≠ D2 := fun z => by rw [z, hac6] at n8; cases n8
        refine mk6.push keeps_PCnX hD2 (Same.upd s8 ht2) (d := (contM d.1, d.2)) ⟨t2, pc, rfl, npD, upd_same, same_upd ht2 _ _ e8⟩ (by show _ = _; rw [take_push hd]; simp) ?_
        rw [List.length_map, List.length_take, List.length_map]
        have h1 := List.length_filter_le c (colM l)
        exact small1000 (by omega)
      · intro H6 mk6
        obtain ⟨ac6, hac6, p6⟩ := mk6.acc
        rw [plen, List.take_length] at p6
        refine q D2 H6 ac6 (Same.trans s1 (Same.trans s5 mk6.same)) hac6 ?_
        have : pairsM l m = (((colM l).filter c).map r1).map fun p => (contM p.1, p.2) := by
          unfold pairsM
          rw [List.map_map]
          rfl
        rw [this]
        exact paired_mono p6 fun v d h => by
          obtain ⟨t, a, e, _, h1, h2⟩ := h
          exact ⟨t, a, e, h1, h2⟩
end
end K53
namespace K53
open PySem PySem.Spec PyProof.Rows L2
local macro_rules | `(tactic| walk_at "rd") => `(tactic| simp only [ap_seq, ap_next, ap_drop, ap_ret, ap_retN, ap_ifS, ap_asg, ap_par, ap_par3, ap_aug, ap_nm, ap_test, ap_tB, ap_and, ap_or, ap_not, ap_if, ap_andV, ap_notV, ap_op, ap_un, ap_c, ap_var, ap_nil, ap_cons, ap_tup, ap_lst, ap_cl, ap_cb, ap_bm, ap_bm0, ap_sl, ap_nopart, ap_part, ap_never, ap_chain, ap_fld, ap_gtup, ap_gcons, ap_gnil, ap_yes, ap_revL, ap_star,
  r_I, r_I0, r_U, r_eq, r_ne, r_isi, r_ixT, r_ixL, r_gcd, r_comb, r_sumT, r_sum, r_app, r_setI, ap_tupB, ap_cnt, r_slB, cx_w, cx_P, r_sSet, r_cntT, r_setL, ap_gsub, ap_dcT, ap_dispT, ap_dnewT, ap_dget, ap_dget2, ap_dput, w_itemsT, w_keys, r_rep, r_sorted, r_slL, r_in, ap_lc2, w_enumT, ap_for, ap_lc, w_tup, w_list, w_r1, w_r2, w_enum, w_zip, cx_K, cx_Kn, wipe,
  L2.start, List.length_cons, List.length_nil, List.map_cons, List.map_nil, List.cons_append, List.nil_append, List.replicate, Nat.zero_add, Nat.reduceAdd, Nat.reduceSub, List.set_cons_zero, List.set_cons_succ,
  List.getElem?_cons_zero, List.getElem?_cons_succ, Option.some.injEq, V.int.injEq, V.bl.injEq, V.str.injEq, V.ref.injEq, exists_eq_left, exists_eq_left', List.cons.injEq, and_true, true_and, and_assoc, scal, exists_and_left, decide_eq_true_eq, bne_iff_ne, Bool.not_eq_true', decide_eq_false_iff_not, if_true, if_false, Bool.false_eq_true, Bool.true_eq_false, if_pos, ite_true, ite_false, Bool.not_true, Bool.not_false])
section
variable {P : Program} {w : World} {K : PySem.W.Frag} {mg : Str → Option Value} {base : Heap}
theorem ok_factor_row (T : Tx K mg) (c_power_in : Cal P w K mg base 1 "power_in" spPower) (D : DefAt K mg "factor_row" s_factor_row) : Cal P w K mg base 2 "factor_row" spFactorRow := by
  refine cal_of D (fun _ _ _ _ _ _ us hl => match us, hl with | [_, _, _], _ => rfl) sc_factor_row (fun vs H Q E h => ?_) fun f cdv A outer s H vs Q E hr h => ?_
  · obtain ⟨p, cs, b, k, rfl, e, hb, hl, hk, q⟩ := h
    rfl
  · obtain ⟨p, cs, b, k, rfl, e, hb, hl, hk, q⟩ := h
    refine ⟨_, (pss_cons (ps_if (pt_cmpR op_eq (pv 1) (pe_k rfl T.ALL) (nomark _)) (pss_one (ps_ret (pe_lc (own := [("place", 6)]) (g := gName 6) (tt := tYes) (te := tCl spPower (tCons (tCB (rSum K) (tCons (tVar 0) tNil)) (tCons (tVar 6) tNil))) rfl sc_factor_row.nd (pi_range1 rfl T.range (pa_cons (pe_op op_add (pv 2) pe_int) pa_nil)) (blkOk_by (N := ["numbers", "word", "many", "found", "number", "step", "place"]) (sc := defScope s_factor_row) (by decide +kernel)) (fun _ _ _ _ _ => (pg_name (i := 6) sc_factor_row.nd rfl (Or.inl rfl))) (fun _ _ _ _ _ => pts_nil) (fun _ _ _ _ _ => (pe_c c_power_in hr (by decide) (by rfl) (pa_cons (pe_callB (cr_sum rfl) (by rfl) T.sum (by decide +kernel) (pa_cons (pv 0) pa_nil)) (pa_cons (pv 6) pa_nil))))))) pss_nil)
        (pss_cons (ps_set (i := 3) sc_factor_row.nd rfl (Or.inl rfl) (pe_lst (pa_cons pe_int (StX.pa_star (pe_op op_rep (pe_lst (pa_cons pe_int pa_nil)) (pv 2)) pa_nil))))
        (pss_cons (ps_for PassesOwn.never rfl (pi_list (pv 0)) (pg_name (i := 4) sc_factor_row.nd rfl (Or.inl rfl)) (pss_one (ps_for PassesOwn.never rfl (pi_range1 rfl T.range (pa_cons (pv 2) pa_nil)) (pg_name (i := 5) sc_factor_row.nd rfl (Or.inl rfl)) (pss_cons (ps_set (i := 6) sc_factor_row.nd rfl (Or.inl rfl) (pe_ifExp (pt_cmpR op_eq (pv 1) (pe_k rfl T.RISING) (nomark _)) (pe_op op_add (pv 5) pe_int) (pe_op op_sub (pv 2) (pv 5))))
        (pss_one (ps_asg (pe_op op_add (pe_ix ix_list (pv 3) (pv 6) (fun _ _ => rfl)) (pe_op op_mulW (pv 4) (pe_ix ix_list (pv 3) (pe_op op_sub (pv 6) pe_int) (fun _ _ => rfl)))) (pg_sub (pv 3) (pv 6) set_list)))))))
        (pss_one (ps_ret (pv 3)))))), ?_⟩
    walk_at "rd"
    have sumb : cs.sum.natAbs < 2 ^ 64 := by
      have : ∀ l : LI, (∀ c ∈ l, c.natAbs < 100) → l.sum.natAbs ≤ 100 * l.length := fun l => by
        induction l with
        | nil => intro _; simp
        | cons c l ih =>
          intro h
          have h1 := h c List.mem_cons_self
          have h2 := ih fun x hx => h x (List.mem_cons_of_mem _ hx)
          rw [List.sum_cons, List.length_cons]
          omega
      have := this cs hb
      omega
    by_cases hw : b = true
    · subst hw
      rw [if_pos word_t]
      refine ⟨by omega, by omega, fun D hD => ?_⟩
      refine lc_it walk_range (Mk1 (fun _ v d => v = .int d) (fun i => (List.range i).map fun (k : Nat) => cs.sum ^ k) H D) (Mk1.zero rfl hD) (fun i H2 _ mk => trivial) ?_ ?_
      · rintro i x H2 H3 hi mk ⟨rfl, rfl⟩
        walk_at "rd"
        refine ⟨cs, SqL.of' (mk.same _ _ e), cs.sum, i, by rw [Int.zero_add], by omega, sumb, mk.push keeps_int hD Same.refl (d := cs.sum ^ i) rfl (by show _ = _; rw [List.range_succ, List.map_append]; rfl) ?_⟩
        rw [List.length_map, List.length_range]
        exact smallM (by omega)
      · intro H2 mk
        refine q D H2 mk.same ?_
        rw [mk.ints, show ((k : Int) + 1).toNat = k + 1 by omega]
        rfl
    · obtain rfl : b = false := by simpa using hw
      rw [if_neg word_n]
      refine ⟨by decide, fun z hz => ⟨_, upd_same, by omega, by omega, ?_, fun y hy => ⟨_, .inr (SqL.of' upd_same), ?_, fun fa hfa => ?_⟩⟩⟩
      · simp
        exact Nat.le_of_lt (smallM (by omega))
      · simp
        exact Nat.le_of_lt (smallM (by omega))
      have el : V.int 1 :: ((List.replicate (k : Int).toNat [V.int 0]).flatten ++ []) = (rowsM (cs.take 0) k).map V.int := by
        rw [Int.toNat_natCast, List.append_nil, rep_int]
        rfl
      rw [el]
      have s0 : Same H (upd (upd (upd H z (.lst [.int 0])) y (.lst (List.replicate (k : Int).toNat [V.int 0]).flatten)) fa (.lst ((rowsM (cs.take 0) k).map V.int))) := Same.upd (Same.upd (same_upd hz) hy) hfa
      have e0 : (upd (upd (upd H z (.lst [.int 0])) y (.lst (List.replicate (k : Int).toNat [V.int 0]).flatten)) fa (.lst ((rowsM (cs.take 0) k).map V.int))) fa = some (.lst ((rowsM (cs.take 0) k).map V.int)) := upd_same
      have nf : H fa = none := Same.no (Same.upd (same_upd hz) hy) hfa
      generalize (upd (upd (upd H z (.lst [.int 0])) y (.lst (List.replicate (k : Int).toNat [V.int 0]).flatten)) fa (.lst ((rowsM (cs.take 0) k).map V.int))) = H0 at s0 e0 ⊢
      have rl : ∀ i, (rowsM (cs.take i) k).length = k + 1 := fun i => by
        have : ∀ l : LI, ∀ f : LI, (l.foldl (fun f c => passM f c k) f).length = f.length := fun l => by
          induction l with
          | nil => intro f; rfl
          | cons c l ih => intro f; rw [List.foldl_cons, ih, pass_len]
        unfold rowsM
        rw [this]
        simp
      have rb : ∀ i, i ≤ cs.length → Bd (rowsM (cs.take i) k) (1 + 7 * k * i) := fun i => by
        induction i with
        | zero =>
          intro _ x hx
          rcases List.mem_cons.mp (show x ∈ 1 :: List.replicate k 0 from hx) with rfl | hx
          · exact Nat.lt_of_lt_of_le (by decide : Int.natAbs 1 < 2 ^ 1) (Nat.pow_le_pow_right (by decide) (by omega))
          · rw [(List.mem_replicate.mp hx).2]; exact Nat.two_pow_pos _
        | succ i ih =>
          intro hi
          obtain ⟨c, hc⟩ : ∃ c, cs[i]? = some c := ⟨cs[i], List.getElem?_eq_getElem (by omega)⟩
          rw [take_push hc, rows_push]
          refine (pass_bd (ih (by omega)) (hb c (List.mem_of_getElem? hc)) k).mono ?_
          rw [Nat.mul_succ]
          omega
      have pe : p ≠ fa := fun z => by rw [z, nf] at e; cases e
      refine ⟨⟨_, SqL.of' (s0 _ _ e)⟩, for_it walk_list (fun i σ H' => (∃ b4 b5 b6, σ = [some (.ref p), some (.str (wordS false)), some (.int k), some (.ref fa), b4, b5, b6]) ∧ SameX fa H0 H' ∧ H' fa = some (.lst ((rowsM (cs.take i) k).map V.int))) ⟨⟨_, _, _, rfl⟩, SameX.refl, e0⟩ (fun i σ H' _ pv => SqL.of' (pv.2.1 _ _ pe (s0 _ _ e))) ?_ ?_⟩
      · rintro i x σ H1 H2 hi ⟨⟨b4, b5, b6, rfl⟩, s1, e1⟩ ⟨rfl, hx⟩
        obtain ⟨c, hc, rfl, hmem⟩ := at_ints hx
        have hi' : i < cs.length := by simpa using hi
        have hrb := rb i (by omega)
        have hrl := rl i
        have hps : rowsM (cs.take (i + 1)) k = passM (rowsM (cs.take i) k) c k := by rw [take_push hc, rows_push]
        rw [hps]
        generalize rowsM (cs.take i) k = f at e1 hrb hrl ⊢
        have hcb := hb c hmem
        walk_at "rd"
        refine ⟨by omega, by omega, for_it walk_range (fun j σ H' => (∃ b5 b6, σ = [some (.ref p), some (.str (wordS false)), some (.int k), some (.ref fa), some (.int c), b5, b6]) ∧ SameX fa H0 H' ∧ H' fa = some (.lst ((passM f c j).map V.int))) ⟨⟨_, _, rfl⟩, s1, e1⟩ (fun i σ H' _ pv => trivial) ?_ ?_⟩
        · rintro j x σ H3 H4 hj ⟨⟨c5, c6, rfl⟩, s3, e3⟩ ⟨rfl, rfl⟩
          have hj' : j < k := by omega
          walk_at "rd"
          rw [if_pos word_f]
          have hl : (passM f c j).length = k + 1 := by rw [pass_len, hrl]
          have hbd := (pass_bd hrb hcb j).getD j
          have at1 : ∀ m, m ≤ k → atI ((passM f c j).map V.int) ((m : Nat) : Int) = some (.int ((passM f c j).getD m 0)) := fun m hm => by
            refine atI_nat ?_
            rw [List.getElem?_map, List.getD_eq_getElem?_getD, List.getElem?_eq_getElem (by omega)]
            rfl
          have k1 : (0 : Int) + (j : Int) + 1 = ((j + 1 : Nat) : Int) := by omega
          have k2 : (0 : Int) + (j : Int) + 1 - 1 = ((j : Nat) : Int) := by omega
          rw [k2, k1]
          refine ⟨_, SqL.of' e3, _, at1 (j + 1) (by omega), _, SqL.of' e3, _, at1 j (by omega), _, rfl, wide_mul (a := 7) (b := 100000) (by omega) (Nat.lt_of_lt_of_le hbd (Nat.pow_le_pow_right (by decide) ?_)) (by decide) (by decide) (by decide), _, rfl, ?_⟩
          · have h1 : 7 * k * i ≤ 7 * 60 * 100 := Nat.mul_le_mul (by omega) (by omega)
            omega
          · refine ⟨_, e3, j + 1, ?_, ⟨_, rfl⟩, SameX.trans s3 SameX.upd, ?_⟩
            · rw [List.length_map, hl]
              unfold ixN
              rw [if_pos (by omega), if_pos (by omega)]
              rfl
            · rw [upd_same, pass_succ]
              unfold rowStep
              rw [List.map_set]
        · rintro σ H3 ⟨⟨c5, c6, rfl⟩, s3, e3⟩
          rw [Int.toNat_natCast] at e3
          exact ⟨⟨_, _, _, rfl⟩, s3, e3⟩
      · rintro σ H1 ⟨⟨b4, b5, b6, rfl⟩, s1, e1⟩
        walk_at "rd"
        rw [List.length_map, List.take_length] at e1
        refine q fa H1 (fun b o eb => s1 _ _ (ne_of_none eb nf) (s0 _ _ eb)) e1
theorem ok_shares_of_lot (T : Tx K mg) (D : DefAt K mg "shares_of_lot" s_shares_of_lot) : Cal P w K mg base 1 "shares_of_lot" spShares := by
  refine cal_of D (fun _ _ _ _ _ _ us hl => match us, hl with | [_], _ => rfl) sc_shares_of_lot (fun vs H Q E h => ?_) fun f cdv A outer s H vs Q E hr h => ?_
  · obtain ⟨v, l, rfl, ⟨a, rfl, e⟩, ti, q⟩ := h
    rfl
  · obtain ⟨v, l, rfl, ⟨a, rfl, e⟩, ti, q⟩ := h
    refine ⟨_, (pss_cons (ps_set (i := 1) sc_shares_of_lot.nd rfl (Or.inl rfl) (pe_lst (pa_cons (pe_tup (pa_cons (pe_tupB pa_nil) (pa_cons (pe_tupB pa_nil) (pa_cons pe_int pa_nil)))) pa_nil)))
        (pss_cons (ps_for PassesOwn.never rfl (pi_list (pe_revL (pe_callB (cr_sortedSet rfl) (by rfl) T.sorted (by decide +kernel) (pa_cons (pe_callTy (cr_setI rfl) (by rfl) T.set (by decide +kernel) (pa_cons (pv 0) pa_nil)) pa_nil)))) (pg_name (i := 2) sc_shares_of_lot.nd rfl (Or.inl rfl)) (pss_cons (ps_par (i := 3) (j := 4) rfl sc_shares_of_lot.nd rfl rfl (by decide) rfl rfl (pa_cons (pe_tcount (pv 0) (pv 2) ⟨by rfl, by rfl, by rfl, by rfl⟩) (pa_cons (pe_lst pa_nil) pa_nil)) (by rfl))
        (pss_cons (ps_for PassesOwn.never rfl (pi_list (pe_callTy call_list_of (by rfl) T.list (by decide +kernel) (pa_cons (pv 1) pa_nil))) (pg_tup (by rfl) (pgs_cons (pg_name (i := 5) sc_shares_of_lot.nd rfl (Or.inl rfl)) (pgs_cons (pg_name (i := 6) sc_shares_of_lot.nd rfl (Or.inl rfl)) (pgs_cons (pg_name (i := 7) sc_shares_of_lot.nd rfl (Or.inl rfl)) pgs_nil)))) (pss_one (ps_for PassesOwn.never rfl (pi_range1 rfl T.range (pa_cons (pe_op op_add (pv 3) pe_int) pa_nil)) (pg_name (i := 8) sc_shares_of_lot.nd rfl (Or.inl rfl)) (pss_cons (ps_par (i := 9) (j := 10) rfl sc_shares_of_lot.nd rfl rfl (by decide) rfl rfl (pa_cons (pe_tupB (StX.pa_star (pv 5) (StX.pa_star (pe_op op_rep (pe_lst (pa_cons (pv 2) pa_nil)) (pv 8)) pa_nil))) (pa_cons (pe_tupB (StX.pa_star (pv 6) (StX.pa_star (pe_op op_rep (pe_lst (pa_cons (pv 2) pa_nil)) (pe_op op_sub (pv 3) (pv 8))) pa_nil))) pa_nil)) (by rfl))
        (pss_one (ps_expr (pe_bm PySem.F.plainAttrs_list PySem.F.slot_list_append PySem.F.type_list_append mt_append (pv 4) (pa_cons (pe_tup (pa_cons (pv 9) (pa_cons (pv 10) (pa_cons (pe_op op_mulW (pv 7) (pe_callBfun cr_comb (by rfl) T.comb (pa_cons (pv 3) (pa_cons (pv 8) pa_nil)))) pa_nil)))) pa_nil))))))))
        (pss_one (ps_set (i := 1) sc_shares_of_lot.nd rfl (Or.inl rfl) (pv 4))))))
        (pss_one (ps_ret (pv 1))))), ?_⟩
    walk_at "rd"
    refine ⟨by decide, fun t1 o1 d1 h1 => ⟨by decide, fun t2 o2 d2 h2 => ⟨by decide, fun t3 h3 => ⟨by decide, fun fd hfd => ?_⟩⟩⟩⟩
    have s0 : Same H (upd (upd (upd (upd H t1 (.frz o1 (.tup []))) t2 (.frz o2 (.tup []))) t3 (.tup [.ref t1, .ref t2, .int 1])) fd (.lst [.ref t3])) := Same.upd (Same.upd (Same.upd (same_upd h1) h2) h3) hfd
    have e0 : (upd (upd (upd (upd H t1 (.frz o1 (.tup []))) t2 (.frz o2 (.tup []))) t3 (.tup [.ref t1, .ref t2, .int 1])) fd (.lst [.ref t3])) fd = some (.lst [.ref t3]) := upd_same
    have p0 : PSh (upd (upd (upd (upd H t1 (.frz o1 (.tup []))) t2 (.frz o2 (.tup []))) t3 (.tup [.ref t1, .ref t2, .int 1])) fd (.lst [.ref t3])) (.ref t3) ([], [], 1) :=
      ⟨t3, t1, t2, rfl, same_upd hfd _ _ upd_same, ⟨o1, same_upd hfd _ _ (same_upd h3 _ _ (same_upd h2 _ _ upd_same)), d1⟩, ⟨o2, same_upd hfd _ _ (same_upd h3 _ _ upd_same), d2⟩⟩
    generalize (upd (upd (upd (upd H t1 (.frz o1 (.tup []))) t2 (.frz o2 (.tup []))) t3 (.tup [.ref t1, .ref t2, .int 1])) fd (.lst [.ref t3])) = H0 at s0 e0 p0 ⊢
    refine ⟨l, Bare.sq (Bare.same s0 e), by have := ti.len; omega, fun ps n hps hn => ⟨_, _, upd_same, by have := ti.len; omega, fun ns pk hns hmem hnl hpk => ⟨_, SqL.of' upd_same, fun pr hpr => ?_⟩⟩⟩
    have hkin : ns.reverse = kindsM l := kinds_eq hns fun k => by rw [hmem]; simp
    rw [← List.map_reverse, hkin]
    have s1 : Same H0 (upd (upd (upd H0 ps (SetO w ps (fun j => decide (j ∈ l)) n)) pk (.lst (ns.map V.int))) pr (.lst ((kindsM l).map V.int))) := Same.upd (Same.upd (same_upd hps) hpk) hpr
    have e1 : (upd (upd (upd H0 ps (SetO w ps (fun j => decide (j ∈ l)) n)) pk (.lst (ns.map V.int))) pr (.lst ((kindsM l).map V.int))) pr = some (.lst ((kindsM l).map V.int)) := upd_same
    generalize (upd (upd (upd H0 ps (SetO w ps (fun j => decide (j ∈ l)) n)) pk (.lst (ns.map V.int))) pr (.lst ((kindsM l).map V.int))) = H1 at s1 e1 ⊢
    have fo : ∀ i m, (kindsM l)[i]? = some m → ((kindsM l).take (i + 1)).foldl (sharesStep l) [([], [], 1)] = sharesStep l (((kindsM l).take i).foldl (sharesStep l) [([], [], 1)]) m := fun i m h => by
      rw [take_push h, List.foldl_append]
      rfl
    refine ⟨⟨_, SqL.of' e1⟩, for_it walk_list (fun i σ H' => Same H1 H' ∧ ∃ fd xs b2 b3 b4 b5 b6 b7 b8 b9 b10, σ = [some (.ref a), some (.ref fd), b2, b3, b4, b5, b6, b7, b8, b9, b10] ∧ H' fd = some (.lst xs) ∧ Paired (PSh H') xs (((kindsM l).take i).foldl (sharesStep l) [([], [], 1)])) ⟨Same.refl, fd, _, _, _, _, _, _, _, _, _, _, rfl, s1 _ _ e0, .cons (p0.mono s1) .nil⟩ (fun i σ H' _ pv => SqL.of' (pv.1 _ _ e1)) ?_ ?_⟩
    · rintro i x σ H2 H3 hi ⟨s2, fd, xs, b2, b3, b4, b5, b6, b7, b8, b9, b10, rfl, e2, px⟩ ⟨rfl, hx⟩
      obtain ⟨m, hm, rfl, _⟩ := at_ints hx
      have hi' : i < (kindsM l).length := by simpa using hi
      have hsh := ti.shares (i := i) (by omega)
      rw [fo i m hm]
      generalize ((kindsM l).take i).foldl (sharesStep l) [([], [], 1)] = found at px hsh ⊢
      have ea : Bare H3 a (l.map V.int) := Bare.same s2 (Bare.same s1 (Bare.same s0 e))
      have hcm : l.count m ≤ 7 := Nat.le_trans List.count_le_length ti.len
      walk_at "rd"
      refine ⟨l, ea, ea, by decide, fun lg hlg => ⟨_, .inl (SqL.of' (same_upd hlg _ _ e2)), fun cp hcp => ?_⟩⟩
      let g : LI × LI × Int → Nat → LI × LI × Int := fun f t => (f.1 ++ List.replicate t m, f.2.1 ++ List.replicate (l.count m - t) m, f.2.2 * choose (l.count m) t)
      let st : LI × LI × Int → List (LI × LI × Int) := fun f => (List.range (l.count m + 1)).map (g f)
      have stl : ∀ f, (st f).length ≤ 8 := fun f => by simp only [st, List.length_map, List.length_range]; omega
      have flat_len : ∀ L : List (LI × LI × Int), (L.flatMap st).length ≤ 8 * L.length := fun L => by
        induction L with
        | nil => simp
        | cons f L ih => rw [List.flatMap_cons, List.length_append, List.length_cons]; have := stl f; omega
      have mk0 : Mk1 PSh (fun j => (found.take j).flatMap st) H3 lg 0 (upd (upd H3 lg (.lst [])) cp (.lst xs)) := (Mk1.zero (out := fun j => (found.take j).flatMap st) rfl hlg).stay keeps_PSh (same_upd hcp) rfl
      have ecp : (upd (upd H3 lg (.lst [])) cp (.lst xs)) cp = some (.lst xs) := upd_same
      have px4 := paired_mono px fun v d h => h.mono mk0.same
      generalize (upd (upd H3 lg (.lst [])) cp (.lst xs)) = H4 at mk0 ecp px4 ⊢
      have ncl : cp ≠ lg := fun z => by
        obtain ⟨ac, h1, h2⟩ := mk0.acc
        rw [← z, ecp] at h1
        rw [z] at hcp
        rw [upd_same] at hcp
        cases hcp
      refine ⟨⟨_, SqL.of' ecp⟩, for_it walk_list (fun j σ H' => Mk1 PSh (fun j => (found.take j).flatMap st) H3 lg j H' ∧ SameX lg H4 H' ∧ ∃ b5 b6 b7 b8 b9 b10, σ = [some (.ref a), some (.ref fd), some (.int m), some (.int (l.count m : Nat)), some (.ref lg), b5, b6, b7, b8, b9, b10]) ⟨mk0, SameX.refl, _, _, _, _, _, _, rfl⟩ (fun j σ H' _ pv => SqL.of' (pv.2.1 _ _ ncl ecp)) ?_ ?_⟩
      · rintro j x σ H5 H6 hj ⟨mk, sx, c5, c6, c7, c8, c9, c10, rfl⟩ ⟨rfl, hx⟩
        obtain ⟨d, hd, t, a1, a2, rfl, ht, ha1, ha2⟩ := paired_at px4 hx
        have hdb := hsh.2 d (List.mem_of_getElem? hd)
        obtain ⟨acl, hacl, _⟩ := mk0.acc
        have ht' := sx _ _ (ne_of ht hacl (by intro z; cases z)) ht
        have ha1' := Bare.keepX ha1 hacl sx
        have ha2' := Bare.keepX ha2 hacl sx
        have hj' : j < found.length := (List.getElem?_eq_some_iff.mp hd).1
        walk_at "rd"
        refine ⟨_, SqT.of' ht', rfl, _, _, rfl, _, _, rfl, _, _, rfl, rfl, ?_⟩
        refine ⟨by omega, by omega, for_it walk_range (fun k σ H' => Mk1 PSh (fun k => (found.take j).flatMap st ++ (List.range k).map (g d)) H3 lg k H' ∧ SameX lg H6 H' ∧ ∃ b8 b9 b10, σ = [some (.ref a), some (.ref fd), some (.int m), some (.int (l.count m : Nat)), some (.ref lg), some (.ref a1), some (.ref a2), some (.int d.2.2), b8, b9, b10]) ⟨mk.stay keeps_PSh Same.refl (by simp), SameX.refl, _, _, _, rfl⟩ (fun i σ H' _ pv => trivial) ?_ ?_⟩
        · rintro k x σ H7 H8 hk ⟨mk7, sx7, k8, k9, k10, rfl⟩ ⟨rfl, rfl⟩
          have hk' : k ≤ l.count m := by omega
          walk_at "rd"
          obtain ⟨ac6, hac6, _⟩ := mk.acc
          have b1 := Bare.keepX ha1' hac6 sx7
          have b2 := Bare.keepX ha2' hac6 sx7
          have kz : (0 + (k : Int)) = ((k : Nat) : Int) := by omega
          have kc : ((l.count m : Nat) : Int) - ((k : Nat) : Int) = ((l.count m - k : Nat) : Int) := by omega
          rw [kz, kc, Int.toNat_natCast, Int.toNat_natCast]
          refine ⟨_, .inl (Bare.sq b1), by decide, fun z1 h1 => ⟨_, upd_same, by omega, by omega, ?_, fun z2 h2 => ⟨_, .inr (SqL.of' upd_same), ?_, fun p1 o1 d1 hp1 => ?_⟩⟩⟩
          · rw [List.length_singleton, Nat.one_mul]
            exact Nat.le_of_lt (smallM (by omega))
          · simp
            exact Nat.le_of_lt (smallM (by omega))
          have s8 : Same H8 (upd (upd (upd H8 z1 (.lst [.int m])) z2 (.lst (List.replicate k [.int m]).flatten)) p1 (.frz o1 (.tup (d.1.map V.int ++ ((List.replicate k [.int m]).flatten ++ []))))) := Same.upd (Same.upd (same_upd h1) h2) hp1
          have f1 : Bare (upd (upd (upd H8 z1 (.lst [.int m])) z2 (.lst (List.replicate k [.int m]).flatten)) p1 (.frz o1 (.tup (d.1.map V.int ++ ((List.replicate k [.int m]).flatten ++ []))))) p1 ((d.1 ++ List.replicate k m).map V.int) := ⟨o1, by rw [upd_same, rep_int, List.append_nil, List.map_append], d1⟩
          generalize (upd (upd (upd H8 z1 (.lst [.int m])) z2 (.lst (List.replicate k [.int m]).flatten)) p1 (.frz o1 (.tup (d.1.map V.int ++ ((List.replicate k [.int m]).flatten ++ []))))) = H9 at s8 f1 ⊢
          refine ⟨_, .inl (Bare.sq (Bare.same s8 b2)), by decide, fun z3 h3 => ⟨_, upd_same, by omega, by omega, ?_, fun z4 h4 => ⟨_, .inr (SqL.of' upd_same), ?_, fun p2 o2 d2 hp2 => ?_⟩⟩⟩
          · rw [List.length_singleton, Nat.one_mul]
            exact Nat.le_of_lt (smallM (by omega))
          · simp
            exact Nat.le_of_lt (smallM (by omega))
          have s9 : Same H9 (upd (upd (upd H9 z3 (.lst [.int m])) z4 (.lst (List.replicate (l.count m - k) [.int m]).flatten)) p2 (.frz o2 (.tup (d.2.1.map V.int ++ ((List.replicate (l.count m - k) [.int m]).flatten ++ []))))) := Same.upd (Same.upd (same_upd h3) h4) hp2
          have f2 : Bare (upd (upd (upd H9 z3 (.lst [.int m])) z4 (.lst (List.replicate (l.count m - k) [.int m]).flatten)) p2 (.frz o2 (.tup (d.2.1.map V.int ++ ((List.replicate (l.count m - k) [.int m]).flatten ++ []))))) p2 ((d.2.1 ++ List.replicate (l.count m - k) m).map V.int) := ⟨o2, by rw [upd_same, rep_int, List.append_nil, List.map_append], d2⟩
          generalize (upd (upd (upd H9 z3 (.lst [.int m])) z4 (.lst (List.replicate (l.count m - k) [.int m]).flatten)) p2 (.frz o2 (.tup (d.2.1.map V.int ++ ((List.replicate (l.count m - k) [.int m]).flatten ++ []))))) = H10 at s9 f2 ⊢
          obtain ⟨ac7, hac7, _⟩ := mk7.acc
          have cb := comb_ok (l.count m) (by omega) k (by omega)
          have cl := choose_lt (l.count m) (by omega) k (by omega)
          rw [cb]
          refine ⟨.inl ⟨rfl, _, SqL.of' (s9 _ _ (s8 _ _ hac7))⟩, by omega, by omega, by omega, wide_mul (a := 10) (b := 10) (by omega) (by omega) (by decide) (by decide) (by decide), by decide, fun t9 ht9 => ?_⟩
          have sm : ((found.take j).flatMap st ++ (List.range k).map (g d)).length < sizeLine := by
            have h1 := flat_len (found.take j)
            have h2 : (found.take j).length ≤ found.length := by rw [List.length_take]; omega
            rw [List.length_append, List.length_map, List.length_range]
            exact smallM (by omega)
          obtain ⟨ac, q1, q2, q3⟩ := mk7.push keeps_PSh hlg (Same.trans s8 (Same.upd s9 ht9)) (y := .ref t9) (d := g d k) ⟨t9, p1, p2, rfl, upd_same, Bare.same (same_upd ht9) (Bare.same s9 f1), Bare.same (same_upd ht9) f2⟩ (by show _ = _; rw [List.range_succ, List.map_append, List.append_assoc]; rfl) sm
          exact ⟨ac, q1, q2, q3, fun b o n e => by
            rw [upd_ne n]
            exact same_upd ht9 _ _ (s9 _ _ (s8 _ _ (sx7 _ _ n e))), _, rfl⟩
        · rintro σ H7 ⟨mk7, sx7, k8, k9, k10, rfl⟩
          refine ⟨mk7.stay keeps_PSh Same.refl ?_, SameX.trans sx sx7, _, _, _, _, _, _, rfl⟩
          show (found.take (j + 1)).flatMap st = _
          rw [take_flat hd, show ((l.count m : Nat) : Int) + 1 = ((l.count m + 1 : Nat) : Int) by omega, Int.toNat_natCast]
      · rintro σ H5 ⟨mk, sx, c5, c6, c7, c8, c9, c10, rfl⟩
        walk_at "rd"
        obtain ⟨ac, hac, pac⟩ := mk.acc
        rw [paired_len px, List.take_length] at pac
        exact ⟨Same.trans s2 mk.same, ac, hac, pac⟩
    · rintro σ H2 ⟨s2, fd, xs, b2, b3, b4, b5, b6, b7, b8, b9, b10, rfl, e2, px⟩
      walk_at "rd"
      rw [List.length_map, List.take_length] at px
      exact q fd H2 xs (Same.trans s0 (Same.trans s1 s2)) e2 px
theorem ok_shares_with_first (c_shares_of_lot : Cal P w K mg base 1 "shares_of_lot" spShares) (D : DefAt K mg "shares_with_first" s_shares_with_first) : Cal P w K mg base 2 "shares_with_first" spSharesF := by
  refine cal_of D (fun _ _ _ _ _ _ us hl => match us, hl with | [_], _ => rfl) sc_shares_with_first (fun vs H Q E h => ?_) fun f cdv A outer s H vs Q E hr h => ?_
  · obtain ⟨v, l, rfl, ⟨a, rfl, e⟩, hne, ti, q⟩ := h
    rfl
  · obtain ⟨v, l, rfl, ⟨a, rfl, e⟩, hne, ti, q⟩ := h
    refine ⟨_, (pss_one (ps_ret (pe_lc (own := [("one", 1), ("other", 2), ("ways", 3)]) (g := gTup K 3 (gCons (gName 1) (gCons (gName 2) (gCons (gName 3) gNil)))) (tt := tYes) (te := tTup (tCons (tTupB (tCons (tOp (rIxT K) (tVar 0) (tC (.int 0))) (StX.tStar K (tVar 1) tNil))) (tCons (tVar 2) (tCons (tVar 3) tNil)))) rfl sc_shares_with_first.nd (pi_list (pe_c c_shares_of_lot hr (by decide) (by rfl) (pa_cons (pe_slice sl_tupB (pv 0) (po_some pe_int) po_none) pa_nil))) (blkOk_by (N := ["lot", "one", "other", "ways"]) (sc := defScope s_shares_with_first) (by decide +kernel)) (fun _ _ _ _ _ => (pg_tup (by rfl) (pgs_cons (pg_name (i := 1) sc_shares_with_first.nd rfl (Or.inl rfl)) (pgs_cons (pg_name (i := 2) sc_shares_with_first.nd rfl (Or.inl rfl)) (pgs_cons (pg_name (i := 3) sc_shares_with_first.nd rfl (Or.inl rfl)) pgs_nil))))) (fun _ _ _ _ _ => pts_nil) (fun _ _ _ _ _ => (pe_tup (pa_cons (pe_tupB (pa_cons (pe_ix ix_tup (pv 0) pe_int (fun _ _ => rfl)) (StX.pa_star (pv 1) pa_nil))) (pa_cons (pv 2) (pa_cons (pv 3) pa_nil)))))))), ?_⟩
    walk_at "rd"
    have hlen : 0 < l.length := List.length_pos_iff.mpr hne
    obtain ⟨m0, r0, rfl⟩ : ∃ m r, l = m :: r := by
      cases l with
      | nil => exact absurd rfl hne
      | cons m r => exact ⟨m, r, rfl⟩
    refine ⟨_, Bare.sq e, fun hw => ?_, fun b ob db hb => ?_⟩
    · rw [six1 (by simpa using hlen)] at hw
      exact absurd hw.1 (by decide)
    rw [cut1] at *
    have tt : Tiny r0 := ti.tail
    refine ⟨.ref b, r0, rfl, ⟨b, rfl, ob, upd_same, db⟩, tt, fun p H1 xs s1 e1 px => ⟨p, rfl, ⟨_, SqL.of' e1⟩, fun D hD => ?_⟩⟩
    have sh := tt.shares (Nat.le_refl (kindsM r0).length)
    rw [List.take_length] at sh
    have s0 : Same H H1 := Same.trans (same_upd hb) s1
    refine lc_it walk_list (Mk1 PSh (fun i => ((sharesM r0).take i).map fun f => (m0 :: f.1, f.2.1, f.2.2)) H1 D) (Mk1.zero rfl hD) (fun i H3 _ mk => SqL.of' (mk.same _ _ e1)) ?_ ?_
    · rintro i x H3 H4 hi mk ⟨rfl, hx⟩
      obtain ⟨d, hd, t, a1, b1, rfl, ht, ha, hb2⟩ := paired_at px hx
      have hb3 := sh.2 d (List.mem_of_getElem? hd)
      walk_at "rd"
      refine ⟨_, SqT.of' (mk.same _ _ ht), rfl, _, _, rfl, _, _, rfl, _, _, rfl, rfl, ?_⟩
      refine ⟨_, Bare.sq (Bare.same mk.same (Bare.same s0 e)), _, at0, _, rfl, _, .inl (Bare.sq (Bare.same mk.same ha)), ?_, fun t1 o1 d1 ht1 => ⟨by decide, fun t2 ht2 => ?_⟩⟩
      · simp
        exact Nat.le_of_lt (smallM (by omega))
      · refine mk.push keeps_PSh hD (Same.upd (same_upd ht1) ht2) (d := (m0 :: d.1, d.2.1, d.2.2)) ⟨t2, t1, b1, rfl, upd_same, ⟨o1, ?_, d1⟩, ?_⟩ (by show _ = _; rw [take_push hd]; simp) ?_
        · refine same_upd ht2 _ _ ?_
          rw [upd_same, List.append_nil]
          rfl
        · exact Bare.same (same_upd ht2) (Bare.same (same_upd ht1) (Bare.same mk.same hb2))
        · rw [List.length_map, List.length_take]
          have := sh.1
          unfold sharesM
          exact smallM (by omega)
    · intro H3 mk
      obtain ⟨acc, hacc, pacc⟩ := mk.acc
      rw [paired_len px, List.take_length] at pacc
      exact q D H3 acc (Same.trans s0 mk.same) hacc pacc
end
end K53
namespace K53
open PySem PySem.Spec PyProof.Rows L2
local macro_rules | `(tactic| walk_at "rd") => `(tactic| simp only [ap_seq, ap_next, ap_drop, ap_ret, ap_retN, ap_ifS, ap_asg, ap_par, ap_par3, ap_aug, ap_nm, ap_test, ap_tB, ap_and, ap_or, ap_not, ap_if, ap_andV, ap_notV, ap_op, ap_un, ap_c, ap_var, ap_nil, ap_cons, ap_tup, ap_lst, ap_cl, ap_cb, ap_bm, ap_bm0, ap_sl, ap_nopart, ap_part, ap_never, ap_chain, ap_fld, ap_gtup, ap_gcons, ap_gnil, ap_yes, ap_revL, ap_star,
  r_I, r_I0, r_U, r_eq, r_ne, r_isi, r_ixT, r_ixL, r_gcd, r_comb, r_sumT, r_sum, r_app, r_setI, r_gixL, ap_augS, r_ipI, ap_tupB, ap_cnt, r_slB, cx_w, cx_P, r_sSet, r_cntT, r_setL, ap_gsub, ap_dcT, ap_dispT, ap_dnewT, ap_dget, ap_dget2, ap_dput, w_itemsT, w_keys, r_rep, r_sorted, r_slL, r_in, ap_lc2, w_enumT, ap_for, ap_lc, w_tup, w_list, w_r1, w_r2, w_enum, w_zip, cx_K, cx_Kn, wipe,
  L2.start, List.length_cons, List.length_nil, List.map_cons, List.map_nil, List.cons_append, List.nil_append, List.replicate, Nat.zero_add, Nat.reduceAdd, Nat.reduceSub, List.set_cons_zero, List.set_cons_succ,
  List.getElem?_cons_zero, List.getElem?_cons_succ, Option.some.injEq, V.int.injEq, V.bl.injEq, V.str.injEq, V.ref.injEq, exists_eq_left, exists_eq_left', List.cons.injEq, and_true, true_and, and_assoc, scal, exists_and_left, decide_eq_true_eq, bne_iff_ne, Bool.not_eq_true', decide_eq_false_iff_not, if_true, if_false, Bool.false_eq_true, Bool.true_eq_false, if_pos, ite_true, ite_false, Bool.not_true, Bool.not_false])
section
variable {P : Program} {w : World} {K : PySem.W.Frag} {mg : Str → Option Value} {base : Heap} {C : Addr}
theorem ok_Links_put_beside (T : Tx K mg) (L : LkT K C) (D : MetAt K C "put_beside" "Links.put_beside" s_Links_put_beside) : CalM P w K mg base C 1 "put_beside" (spBeside C) := by
  refine met_of D (fun _ _ _ _ _ _ us hl => match us, hl with | [_, _, _, _], _ => rfl) sc_Links_put_beside (fun vs H Q E h => ?_) fun f cdv A outer s H vs Q E hr h => ?_
  · obtain ⟨a, dx, dl, dn, ds, wd, many, p, q, xs, ys, ways, rfl, sl, hm, ep, eq, lx, ly, wb, bx, by_, qq⟩ := h
    rfl
  · obtain ⟨a, dx, dl, dn, ds, wd, many, p, q, xs, ys, ways, rfl, sl, hm, ep, eq, lx, ly, wb, bx, by_, qq⟩ := h
    refine ⟨_, (pss_cons (ps_set (i := 4) sc_Links_put_beside.nd rfl (Or.inl rfl) (pe_op op_rep (pe_lst (pa_cons pe_int pa_nil)) (pe_op op_add (SlX.pe_sl (pv 0)) pe_int)))
        (pss_cons (ps_for PassesOwn.never rfl (pi_enum (by rfl) T.enumerate (pa_cons (pv 1) pa_nil)) (pg_tup (by rfl) (pgs_cons (pg_name (i := 5) sc_Links_put_beside.nd rfl (Or.inl rfl)) (pgs_cons (pg_name (i := 6) sc_Links_put_beside.nd rfl (Or.inl rfl)) pgs_nil))) (pss_one (ps_if (pt_cmpR op_ne (pv 6) pe_int (nomark _)) (pss_one (ps_for PassesOwn.never rfl (pi_range1 rfl T.range (pa_cons (pe_op op_sub (pe_op op_add (SlX.pe_sl (pv 0)) pe_int) (pv 5)) pa_nil)) (pg_name (i := 7) sc_Links_put_beside.nd rfl (Or.inl rfl)) (pss_cons (ps_set (i := 8) sc_Links_put_beside.nd rfl (Or.inl rfl) (pe_ifExp (pt_cmpR op_eq (SlX.pe_sl (pv 0)) (pe_k rfl T.ALL) (nomark _)) (pe_callBfun cr_comb (by rfl) T.comb (pa_cons (pe_op op_add (pv 5) (pv 7)) (pa_cons (pv 5) pa_nil))) pe_int))
        (pss_one (ps_augS (pv 4) (pe_op op_add (pv 5) (pv 7)) get_list (pe_op op_mulW (pe_op op_mulW (pe_op op_mulW (pv 3) (pv 8)) (pv 6)) (pe_ix ix_list (pv 2) (pv 7) (fun _ _ => rfl))) ip_add set_list))))) pss_nil)))
        (pss_one (ps_ret (pv 4))))), ?_⟩
    obtain ⟨pm, sm⟩ := L.many
    obtain ⟨pw, sw⟩ := L.word
    walk_at "rd"
    refine ⟨by decide, fun z hz => ⟨C, dx, pm, _, Slt.same (same_upd hz) sl, L.cls, 1, sm, _, rfl, _, rfl, _, upd_same, by omega, by omega, ?_, fun fa hfa => ?_⟩⟩
    · rw [List.length_singleton, Nat.one_mul]
      exact Nat.le_of_lt (smallM (by omega))
    rw [rep_int, show ((many : Int) + 1).toNat = many + 1 by omega]
    have s1 : Same H (upd (upd H z (.lst [.int 0])) fa (.lst ((List.replicate (many + 1) (0 : Int)).map V.int))) := Same.upd (same_upd hz) hfa
    have e1 : (upd (upd H z (.lst [.int 0])) fa (.lst ((List.replicate (many + 1) (0 : Int)).map V.int))) fa = some (.lst ((List.replicate (many + 1) (0 : Int)).map V.int)) := upd_same
    have nf : H fa = none := Same.no (same_upd hz) hfa
    generalize (upd (upd H z (.lst [.int 0])) fa (.lst ((List.replicate (many + 1) (0 : Int)).map V.int))) = H1 at s1 e1 ⊢
    have npf : p ≠ fa := fun z => by rw [z, nf] at ep; cases ep
    have nqf : q ≠ fa := fun z => by rw [z, nf] at eq; cases eq
    have all1 : ∀ H', SameX fa H1 H' → Same H H' := fun H' sx b o e => sx _ _ (ne_of_none e nf) (s1 _ _ e)
    refine ⟨_, SqL.of' (s1 _ _ ep), for_it walk_enum (fun i σ H' => SameX fa H1 H' ∧ H' fa = some (.lst ((besideFrom wd many ways ys 0 (xs.take i) (List.replicate (many + 1) 0)).map V.int)) ∧ ∃ b5 b6 b7 b8, σ = [some (.ref a), some (.ref p), some (.ref q), some (.int ways), some (.ref fa), b5, b6, b7, b8]) ⟨SameX.refl, e1, _, _, _, _, rfl⟩ (fun i σ H' _ pv => SqL.of' (pv.1 _ _ npf (s1 _ _ ep))) ?_ ?_⟩
    · rintro i x σ H2 H3 hi ⟨sx, e2, b5, b6, b7, b8, rfl⟩ ⟨T0, x1, x2, rfl, hT, rfl, hx1, hx2⟩
      cases hx1
      obtain ⟨m, hm', rfl, hmem⟩ := at_ints hx2
      have hil : i < xs.length := by simpa using hi
      have hti : (xs.take i).length = i := by rw [List.length_take]; omega
      have hbp : besideFrom wd many ways ys 0 (xs.take (i + 1)) (List.replicate (many + 1) 0) = bsE wd many ways ys i m (besideFrom wd many ways ys 0 (xs.take i) (List.replicate (many + 1) 0)) := by
        rw [take_push hm', beside_push, hti, Nat.zero_add]
      have hfl : (besideFrom wd many ways ys 0 (xs.take i) (List.replicate (many + 1) 0)).length = many + 1 := by rw [beside_len, List.length_replicate]
      rw [hbp]
      generalize besideFrom wd many ways ys 0 (xs.take i) (List.replicate (many + 1) 0) = f0 at e2 hfl ⊢
      have mb := bx m hmem
      walk_at "rd"
      refine ⟨_, SqT.of' upd_same, rfl, _, _, rfl, _, _, rfl, rfl, ?_⟩
      have sT : Same H2 (upd H2 T0 (.tup [.int i, .int m])) := same_upd hT
      have e3 := sT _ _ e2
      have sx3 : SameX fa H1 (upd H2 T0 (.tup [.int i, .int m])) := SameX.trans sx (Same.x sT)
      generalize (upd H2 T0 (.tup [.int i, .int m])) = H3 at e3 sx3 ⊢
      refine ⟨rfl, ?_⟩
      by_cases hm0 : m = 0
      · rw [if_neg (by simp [hm0])]
        refine ⟨sx3, ?_, by simp⟩
        unfold bsE
        rw [if_neg (by simp [hm0])]
        exact e3
      · rw [if_pos (by simp [hm0])]
        have hbs : bsE wd many ways ys i m f0 = (List.range (many + 1 - i)).foldl (besideStep wd ways i m ys) f0 := by
          unfold bsE
          rw [if_pos hm0]
        rw [hbs]
        have k2 : ((many : Nat) : Int) + 1 - ((i : Nat) : Int) = ((many + 1 - i : Nat) : Int) := by omega
        refine ⟨C, dx, pm, _, Slt.same (all1 _ sx3) sl, L.cls, 1, sm, _, rfl, _, rfl, _, rfl, by omega, by omega, ?_⟩
        rw [k2, Int.toNat_natCast]
        refine for_it walk_range (fun j σ H' => SameX fa H1 H' ∧ H' fa = some (.lst (((List.range j).foldl (besideStep wd ways i m ys) f0).map V.int)) ∧ ∃ b7 b8, σ = [some (.ref a), some (.ref p), some (.ref q), some (.int ways), some (.ref fa), some (.int i), some (.int m), b7, b8]) ⟨sx3, e3, _, _, rfl⟩ (fun _ _ _ _ _ => trivial) ?_ ?_
        · rintro j x σ H4 H5 hj ⟨sx4, e4, c7, c8, rfl⟩ ⟨rfl, rfl⟩
          have hgl : ((List.range j).foldl (besideStep wd ways i m ys) f0).length = many + 1 := by rw [step_len, hfl]
          have hgs : (List.range (j + 1)).foldl (besideStep wd ways i m ys) f0 = besideStep wd ways i m ys ((List.range j).foldl (besideStep wd ways i m ys) f0) j := by
            rw [List.range_succ, List.foldl_append]
            rfl
          rw [hgs]
          generalize (List.range j).foldl (besideStep wd ways i m ys) f0 = g at e4 hgl ⊢
          have kz : (0 : Int) + (j : Int) = ((j : Nat) : Int) := by omega
          have kk : ((i : Nat) : Int) + ((j : Nat) : Int) = ((i + j : Nat) : Int) := by omega
          have hy : (ys.map V.int)[j]? = some (.int (ys.getD j 0)) := by
            rw [List.getElem?_map, List.getD_eq_getElem?_getD, List.getElem?_eq_getElem (by omega)]
            rfl
          have hg : (g.map V.int)[i + j]? = some (.int (g.getD (i + j) 0)) := by
            rw [List.getElem?_map, List.getD_eq_getElem?_getD, List.getElem?_eq_getElem (by omega)]
            rfl
          have yb := by_.getD j
          have fin : ∀ tm : Int, tm.natAbs < 2 ^ 10 → tm = (if wd then (choose (i + j) i : Int) else 1) → CMulW ways tm ∧ CMulW (ways * tm) m ∧ CMulW (ways * tm * m) (ys.getD j 0) ∧ HO.lst ((g.map V.int).set (i + j) (.int (g.getD (i + j) 0 + ways * tm * m * ys.getD j 0))) = HO.lst ((besideStep wd ways i m ys g j).map V.int) := fun tm ht e => by
            have w1 := wide_lt wb ht
            have w2 := wide_lt w1 mb
            refine ⟨wide_mul wb ht (by decide) (by decide) (by decide), wide_mul w1 mb (by decide) (by decide) (by decide), wide_mul w2 yb (by decide) (by decide) (by decide), ?_⟩
            unfold besideStep
            rw [List.map_set, ← e]
          have ixs : ixN (g.map V.int).length (((i + j : Nat)) : Int) = some (i + j) := by
            rw [List.length_map, hgl]
            unfold ixN
            rw [if_pos (by omega), if_pos (by omega)]
            rfl
          walk_at "rd"
          rw [kz, kk]
          refine ⟨C, dx, pw, _, Slt.same (all1 _ sx4) sl, L.cls, 4, sw, _, rfl, by cases wd <;> rfl, ?_⟩
          have eq5 := all1 _ sx4 _ _ eq
          cases wd with
          | true =>
            rw [if_pos (congrArg V.str word_t)]
            have cb := comb_ok (i + j) (by omega) i (by omega)
            have cl := choose_lt (i + j) (by omega) i (by omega)
            obtain ⟨f1, f2, f3, f4⟩ := fin (choose (i + j) i) (by omega) rfl
            rw [cb]
            exact ⟨by omega, by omega, by omega, _, i + j, rfl, SqL.of' e4, _, hg, f1, f2, _, SqL.of' eq5, _, atI_nat hy, _, rfl, f3, _, rfl, _, e4, i + j, ixs, SameX.trans sx4 SameX.upd, by rw [upd_same, f4], by simp⟩
          | false =>
            rw [if_neg (fun z => word_n (V.str.inj z))]
            obtain ⟨f1, f2, f3, f4⟩ := fin 1 (by decide) rfl
            exact ⟨_, i + j, rfl, SqL.of' e4, _, hg, f1, f2, _, SqL.of' eq5, _, atI_nat hy, _, rfl, f3, _, rfl, _, e4, i + j, ixs, SameX.trans sx4 SameX.upd, by rw [upd_same, f4], by simp⟩
        · rintro σ H4 ⟨sx4, e4, c7, c8, rfl⟩
          exact ⟨sx4, e4, by simp⟩
    · rintro σ H2 ⟨sx, e2, b5, b6, b7, b8, rfl⟩
      walk_at "rd"
      rw [List.length_map, List.take_length] at e2
      exact qq fa H2 nf (all1 _ sx) e2
theorem ok_Links_partings (T : Tx K mg) (c_shares_of_lot : Cal P w K mg base 1 "shares_of_lot" spShares) (c_shares_with_first : Cal P w K mg base 2 "shares_with_first" spSharesF) (D : MetAt K C "partings" "Links.partings" s_Links_partings) : CalM P w K mg base C 3 "partings" (spPartings C) := by
  refine met_of D (fun _ _ _ _ _ _ us hl => match us, hl with | [_, _, _], _ => rfl) sc_Links_partings (fun vs H Q E h => ?_) fun f cdv A outer s H vs Q E hr h => ?_
  · obtain ⟨a, v, l, u, m, rfl, ⟨p1, rfl, b1⟩, ⟨p2, rfl, b2⟩, hne, ti, tj, q⟩ := h
    rfl
  · obtain ⟨a, v, l, u, m, rfl, ⟨p1, rfl, b1⟩, ⟨p2, rfl, b2⟩, hne, ti, tj, q⟩ := h
    refine ⟨_, (pss_cons (ps_set (i := 3) sc_Links_partings.nd rfl (Or.inl rfl) (pe_c c_shares_of_lot hr (by decide) (by rfl) (pa_cons (pv 2) pa_nil)))
        (pss_cons (ps_set (i := 4) sc_Links_partings.nd rfl (Or.inl rfl) (pe_lst pa_nil))
        (pss_cons (ps_for PassesOwn.never rfl (pi_list (pe_c c_shares_with_first hr (by decide) (by rfl) (pa_cons (pv 1) pa_nil))) (pg_tup (by rfl) (pgs_cons (pg_name (i := 5) sc_Links_partings.nd rfl (Or.inl rfl)) (pgs_cons (pg_name (i := 6) sc_Links_partings.nd rfl (Or.inl rfl)) (pgs_cons (pg_name (i := 7) sc_Links_partings.nd rfl (Or.inl rfl)) pgs_nil)))) (pss_one (ps_for PassesOwn.never rfl (pi_list (pv 3)) (pg_tup (by rfl) (pgs_cons (pg_name (i := 8) sc_Links_partings.nd rfl (Or.inl rfl)) (pgs_cons (pg_name (i := 9) sc_Links_partings.nd rfl (Or.inl rfl)) (pgs_cons (pg_name (i := 10) sc_Links_partings.nd rfl (Or.inl rfl)) pgs_nil)))) (pss_one (ps_if (PW.pt (pw_and (pt_cmpR (op_neD hr.units) (pv 6) (pe_tup pa_nil) (nomark _)) (pw_and1 (pt_cmpR op_eq (pe_callB (cr_sumT rfl) (by rfl) T.sum (by decide +kernel) (pa_cons (pv 5) pa_nil)) (pe_callB (cr_sumT rfl) (by rfl) T.sum (by decide +kernel) (pa_cons (pv 8) pa_nil)) (nomark _))))) (pss_one (ps_expr (pe_bm PySem.F.plainAttrs_list PySem.F.slot_list_append PySem.F.type_list_append mt_append (pv 4) (pa_cons (pe_tup (pa_cons (pe_tup (pa_cons (pv 5) (pa_cons (pv 8) pa_nil))) (pa_cons (pe_tup (pa_cons (pv 6) (pa_cons (pv 9) pa_nil))) (pa_cons (pe_op op_mulW (pv 7) (pv 10)) pa_nil)))) pa_nil)))) pss_nil)))))
        (pss_one (ps_ret (pv 4)))))), ?_⟩
    walk_at "rd"
    refine ⟨.ref p2, m, rfl, ⟨p2, rfl, b2⟩, tj, fun pl H1 xs s1 e1 px => ⟨by decide, fun fa hfa => ⟨.ref p1, l, rfl, ⟨p1, rfl, Bare.same (Same.upd s1 hfa) b1⟩, hne, ti, fun pf H2 ys s2 e2 py => ⟨pf, rfl, ⟨_, SqL.of' e2⟩, ?_⟩⟩⟩⟩
    have e12 : H2 pl = some (.lst xs) := s2 _ _ (same_upd hfa _ _ e1)
    have px2 : Paired (PSh H2) xs (sharesM m) := paired_mono px fun v d h => h.mono (Same.trans (same_upd hfa) s2)
    have ef : H2 fa = some (.lst []) := s2 _ _ upd_same
    have nfl : pl ≠ fa := fun z => by rw [z, hfa] at e1; cases e1
    have sl := tj.shares (Nat.le_refl (kindsM m).length)
    rw [List.take_length] at sl
    have sf := first_ok ti hne
    have nf0 : H fa = none := Same.no s1 hfa
    have s02 : Same H H2 := Same.trans s1 (Same.trans (same_upd hfa) s2)
    let c : LI × LI × Int → LI × LI × Int → Bool := fun f l => decide (f.2.1 ≠ []) && decide (f.1.sum = l.1.sum)
    let g : LI × LI × Int → LI × LI × Int → (LI × LI) × (LI × LI) × Int := fun f l => ((f.1, l.1), (f.2.1, l.2.1), f.2.2 * l.2.2)
    let st : LI × LI × Int → List ((LI × LI) × (LI × LI) × Int) := fun f => ((sharesM m).filter (c f)).map (g f)
    have stl : ∀ f, (st f).length ≤ 200 := fun f => by
      have h1 := List.length_filter_le (c f) (sharesM m)
      have h2 : (sharesM m).length ≤ 200 := sl.1
      simp only [st, List.length_map]
      omega
    have flat_len : ∀ L : List (LI × LI × Int), (L.flatMap st).length ≤ 200 * L.length := fun L => by
      induction L with
      | nil => simp
      | cons f L ih => rw [List.flatMap_cons, List.length_append, List.length_cons]; have := stl f; omega
    have mk0 : Mk1 PPt (fun i => ((sharesFirstM l).take i).flatMap st) H1 fa 0 H2 := ⟨Same.trans (same_upd hfa) s2, [], ef, .nil⟩
    have nfp : pf ≠ fa := fun z => by
      rw [z, ef] at e2
      have e3 : ([] : List V) = ys := by injection e2 with e2; injection e2
      have := paired_len py
      rw [← e3] at this
      have := sf.1.2
      simp at *
      omega
    refine for_it walk_list (fun i σ H' => Mk1 PPt (fun i => ((sharesFirstM l).take i).flatMap st) H1 fa i H' ∧ SameX fa H2 H' ∧ ∃ b5 b6 b7 b8 b9 b10, σ = [some a, some (.ref p1), some (.ref p2), some (.ref pl), some (.ref fa), b5, b6, b7, b8, b9, b10]) ⟨mk0, SameX.refl, _, _, _, _, _, _, rfl⟩ (fun i σ H' _ pv => SqL.of' (pv.2.1 _ _ nfp e2)) ?_ ?_
    · rintro i x σ H3 H4 hi ⟨mk, sx, b5, b6, b7, b8, b9, b10, rfl⟩ ⟨rfl, hx⟩
      obtain ⟨d, hd, t, a1, a2, rfl, ht, ha1, ha2⟩ := paired_at py hx
      have hdb := sf.2 d (List.mem_of_getElem? hd)
      have hi' : i < (sharesFirstM l).length := (List.getElem?_eq_some_iff.mp hd).1
      have ht4 := sx _ _ (ne_of ht ef (by intro z; cases z)) ht
      walk_at "rd"
      refine ⟨_, SqT.of' ht4, rfl, _, _, rfl, _, _, rfl, _, _, rfl, rfl, ?_⟩
      refine ⟨⟨_, SqL.of' (sx _ _ nfl e12)⟩, for_it walk_list (fun j σ H' => Mk1 PPt (fun j => ((sharesFirstM l).take i).flatMap st ++ (((sharesM m).take j).filter (c d)).map (g d)) H1 fa j H' ∧ SameX fa H2 H' ∧ ∃ b8 b9 b10, σ = [some a, some (.ref p1), some (.ref p2), some (.ref pl), some (.ref fa), some (.ref a1), some (.ref a2), some (.int d.2.2), b8, b9, b10]) ⟨mk.stay keeps_PPt Same.refl (by simp), sx, _, _, _, rfl⟩ (fun j σ H' _ pv => SqL.of' (pv.2.1 _ _ nfl e12)) ?_ ?_⟩
      · rintro j x σ H5 H6 hj ⟨mk5, sx5, c8, c9, c10, rfl⟩ ⟨rfl, hx⟩
        obtain ⟨d2, hd2, t2, a3, a4, rfl, ht2, ha3, ha4⟩ := paired_at px2 hx
        have hdb2 := (sl.2 d2 (List.mem_of_getElem? hd2)).1
        have ht6 := sx5 _ _ (ne_of ht2 ef (by intro z; cases z)) ht2
        have k1 := Bare.keepX ha1 ef sx5
        have k2 := Bare.keepX ha2 ef sx5
        have k3 := Bare.keepX ha3 ef sx5
        have k4 := Bare.keepX ha4 ef sx5
        have ro : ((sharesFirstM l).take i).flatMap st ++ (((sharesM m).take (j + 1)).filter (c d)).map (g d) = (((sharesFirstM l).take i).flatMap st ++ (((sharesM m).take j).filter (c d)).map (g d)) ++ (if c d d2 = true then [g d d2] else []) := by
          rw [take_filter hd2, List.map_append, List.append_assoc]
          split <;> rfl
        have small : (((sharesFirstM l).take i).flatMap st ++ (((sharesM m).take j).filter (c d)).map (g d)).length < sizeLine := by
          have h1 := flat_len ((sharesFirstM l).take i)
          have h2 : ((sharesFirstM l).take i).length ≤ 200 := by rw [List.length_take]; have := sf.1.1; omega
          have h3 := List.length_filter_le (c d) ((sharesM m).take j)
          have h4 : ((sharesM m).take j).length ≤ 200 := by rw [List.length_take]; have : (sharesM m).length ≤ 200 := sl.1; omega
          rw [List.length_append, List.length_map]
          exact smallM (by omega)
        walk_at "rd"
        refine ⟨_, SqT.of' ht6, rfl, _, _, rfl, _, _, rfl, _, _, rfl, rfl, ?_⟩
        refine ⟨by decide, fun z hz => neTR ⟨a2, rfl, Bare.rd (Bare.same (same_upd hz) k2)⟩ TI.nil.r ⟨_, rfl, ?_⟩⟩
        have sz : Same H6 (upd H6 z (.tup [])) := same_upd hz
        generalize upd H6 z (.tup []) = H7 at sz ⊢
        have s67 := sz
        obtain ⟨ac, hac, _⟩ := mk5.acc
        by_cases z1 : d.2.1 = []
        · rw [if_neg (by simp [z1])]
          refine ⟨mk5.skip keeps_PPt s67 (by show _ = _; rw [ro, if_neg (by simp [c, z1]), List.append_nil]), fun b o n e => s67 _ _ (sx5 _ _ n e), by simp⟩
        · rw [if_pos (by simp [z1])]
          refine ⟨_, Bare.sq (Bare.same s67 k1), a3, rfl, _, Bare.sq (Bare.same s67 k3), ?_⟩
          by_cases z2 : d.1.sum = d2.1.sum
          · rw [if_pos z2]
            refine ⟨.inl ⟨rfl, _, SqL.of' (s67 _ _ hac)⟩, by decide, fun q1 hq1 => ⟨by decide, fun q2 hq2 => ⟨_, rfl, wide_mul (a := 10) (b := 10) (by omega) (by omega) (by decide) (by decide) (by decide), by decide, fun q3 hq3 => ?_⟩⟩⟩
            obtain ⟨ac2, r1, r2, r3⟩ := mk5.push keeps_PPt hfa (Same.trans s67 (Same.upd (Same.upd (same_upd hq1) hq2) hq3)) (y := .ref q3) (d := g d d2) ⟨q3, q1, q2, rfl, upd_same,
              ⟨a1, a3, same_upd hq3 _ _ (same_upd hq2 _ _ upd_same), Bare.same (Same.trans s67 (Same.upd (Same.upd (same_upd hq1) hq2) hq3)) k1, Bare.same (Same.trans s67 (Same.upd (Same.upd (same_upd hq1) hq2) hq3)) k3⟩,
              ⟨a2, a4, same_upd hq3 _ _ upd_same, Bare.same (Same.trans s67 (Same.upd (Same.upd (same_upd hq1) hq2) hq3)) k2, Bare.same (Same.trans s67 (Same.upd (Same.upd (same_upd hq1) hq2) hq3)) k4⟩⟩ (by show _ = _; rw [ro, if_pos (by simp [c, z1, z2])]) small
            exact ⟨ac2, r1, r2, r3, fun b o n e => by
              rw [upd_ne n]
              exact same_upd hq3 _ _ (same_upd hq2 _ _ (same_upd hq1 _ _ (s67 _ _ (sx5 _ _ n e)))), by simp⟩
          · rw [if_neg z2]
            refine ⟨mk5.skip keeps_PPt s67 (by show _ = _; rw [ro, if_neg (by simp [c, z2]), List.append_nil]), fun b o n e => s67 _ _ (sx5 _ _ n e), by simp⟩
      · rintro σ H5 ⟨mk5, sx5, c8, c9, c10, rfl⟩
        refine ⟨mk5.stay keeps_PPt Same.refl ?_, sx5, _, _, _, _, _, _, rfl⟩
        show ((sharesFirstM l).take (i + 1)).flatMap st = _
        rw [take_flat hd, paired_len px2, List.take_length]
    · rintro σ H3 ⟨mk, sx, b5, b6, b7, b8, b9, b10, rfl⟩
      walk_at "rd"
      obtain ⟨acc, ha, pa⟩ := mk.acc
      rw [paired_len py, List.take_length] at pa
      exact q fa H3 acc (Same.trans s1 mk.same) ha pa
end
end K53
namespace K53
open PySem PySem.Spec PyProof.Rows L2
local macro_rules | `(tactic| walk_at "rd") => `(tactic| simp only [ap_seq, ap_next, ap_drop, ap_ret, ap_retN, ap_ifS, ap_asg, ap_par, ap_par3, ap_aug, ap_nm, ap_test, ap_tB, ap_and, ap_or, ap_not, ap_if, ap_andV, ap_notV, ap_op, ap_un, ap_c, ap_var, ap_nil, ap_cons, ap_tup, ap_lst, ap_cl, ap_cb, ap_bm, ap_bm0, ap_sl, ap_nopart, ap_part, ap_never, ap_chain, ap_fld, ap_gtup, ap_gcons, ap_gnil, ap_yes, ap_revL, ap_star,
  r_I, r_I0, r_U, r_eq, r_ne, r_isi, r_ixT, r_ixL, r_gcd, r_comb, r_sumT, r_sum, r_app, r_setI, ap_sSl, ap_nnew, r_nni, r_nget, r_nput, ap_mt, r_gixL, ap_augS, r_ipI, ap_tupB, ap_cnt, r_slB, cx_w, cx_P, r_sSet, r_cntT, r_setL, ap_gsub, ap_dcT, ap_dispT, ap_dnewT, ap_dget, ap_dget2, ap_dput, w_itemsT, w_keys, r_rep, r_sorted, r_slL, r_in, ap_lc2, w_enumT, ap_for, ap_lc, w_tup, w_list, w_r1, w_r2, w_enum, w_zip, cx_K, cx_Kn, wipe,
  L2.start, List.length_cons, List.length_nil, List.map_cons, List.map_nil, List.cons_append, List.nil_append, List.replicate, Nat.zero_add, Nat.reduceAdd, Nat.reduceSub, List.set_cons_zero, List.set_cons_succ,
  List.getElem?_cons_zero, List.getElem?_cons_succ, Option.some.injEq, V.int.injEq, V.bl.injEq, V.str.injEq, V.ref.injEq, exists_eq_left, exists_eq_left', List.cons.injEq, and_true, true_and, and_assoc, scal, exists_and_left, decide_eq_true_eq, bne_iff_ne, Bool.not_eq_true', decide_eq_false_iff_not, if_true, if_false, Bool.false_eq_true, Bool.true_eq_false, if_pos, ite_true, ite_false, Bool.not_true, Bool.not_false])
section
variable {P : Program} {w : World} {K : PySem.W.Frag} {mg : Str → Option Value} {base : Heap} {C : Addr}
theorem ok_Links_init (L : LkT K C) (D : MetAt K C "__init__" "Links.__init__" s_Links_init) : CalM P w K mg base C 1 "__init__" (spInit P w C) := by
  refine met_of D (fun _ _ _ _ _ _ us hl => match us, hl with | [_, _, _], _ => rfl) sc_Links_init (fun vs H Q E h => ?_) fun f cdv A outer s H vs Q E hr h => ?_
  · obtain ⟨a, dx, wd, many, rfl, ha, nxa, q⟩ := h
    rfl
  · obtain ⟨a, dx, wd, many, rfl, ha, nxa, q⟩ := h
    refine ⟨_, (pss_cons (SlX.ps_sl (pv 0) (pv 1))
        (pss_cons (SlX.ps_sl (pv 0) (pv 2))
        (pss_cons (SlX.ps_sl (pv 0) pe_nNew)
        (pss_cons (SlX.ps_sl (pv 0) pe_nNew)
        (pss_one (SlX.ps_sl (pv 0) pe_nNew)))))), ?_⟩
    obtain ⟨p0, s0⟩ := L.linked
    obtain ⟨p1, s1⟩ := L.many
    obtain ⟨p2, s2⟩ := L.numbered
    obtain ⟨p3, s3⟩ := L.summed
    obtain ⟨p4, s4⟩ := L.word
    walk_at "rd"
    refine ⟨C, dx, p4, [], .inl ⟨ha, rfl⟩, L.cls, 4, s4, C, dx, p1, _, SlX.slH_slt nxa, L.cls, 1, s1, fun dl hl => ⟨C, dx, p0, _, Slt.same (same_upd hl) (SlX.slH_slt nxa), L.cls, 0, s0, fun dn hn => ⟨C, dx, p2, _, Slt.same (same_upd hn) (SlX.slH_slt nxa), L.cls, 2, s2, fun d3 h3 => ⟨C, dx, p3, _, Slt.same (same_upd h3) (SlX.slH_slt nxa), L.cls, 3, s3, ?_⟩⟩⟩⟩
    obtain ⟨l1, l2, l3⟩ := slH_no hl
    obtain ⟨_, _, l4⟩ := slH_no l3
    obtain ⟨n1, n2, n3⟩ := slH_no hn
    have nn : dn ≠ dl := fun z => by rw [z, upd_same] at n3; cases n3
    rw [upd_ne nn] at n3
    obtain ⟨_, _, n4⟩ := slH_no n3
    obtain ⟨_, _, n5⟩ := slH_no n4
    obtain ⟨m1, m2, m3⟩ := slH_no h3
    have m4 : d3 ≠ dn := fun z => by rw [z, upd_same] at m3; cases m3
    rw [upd_ne m4] at m3
    obtain ⟨_, _, m5⟩ := slH_no m3
    have m6 : d3 ≠ dl := fun z => by rw [z, upd_same] at m5; cases m5
    rw [upd_ne m6] at m5
    obtain ⟨_, _, m7⟩ := slH_no m5
    obtain ⟨_, _, m8⟩ := slH_no m7
    refine q dl dn (.ref d3) _ l4 n5 ⟨SlX.slH_slt nxa, Ne.symm nn, Ne.symm l1, Ne.symm n1, Ne.symm l2, Ne.symm n2, ⟨⟨?_, (by intro e he; cases he)⟩, (by intro e he; cases he), List.nodup_nil, (by intro e he; cases he)⟩, ⟨⟨?_, (by intro e he; cases he)⟩, (by intro e he; cases he), List.nodup_nil, (by intro e he; cases he)⟩⟩ ?_
    · rw [slH_ne n1 n2, upd_ne (Ne.symm m4), slH_ne n1 n2, upd_same]
    · rw [slH_ne l1 l2, upd_ne (Ne.symm m6), slH_ne l1 l2, upd_ne (Ne.symm nn), slH_ne l1 l2, upd_same]
    · intro b o b1 b2 eb
      rw [slH_ne b1 b2, upd_ne (fun z => by rw [z, m8] at eb; cases eb), slH_ne b1 b2, upd_ne (fun z => by rw [z, n5] at eb; cases eb), slH_ne b1 b2, upd_ne (fun z => by rw [z, l4] at eb; cases eb), slH_ne b1 b2, slH_ne b1 b2]
      exact eb
theorem ok_Links_numbered (T : Tx K mg) (L : LkT K C) (c_pairs_in : Cal P w K mg base 7 "pairs_in" spPairs) (c_factor_row : Cal P w K mg base 2 "factor_row" spFactorRow) (D : MetAt K C "numbered" "Links.numbered" s_Links_numbered) : CalM P w K mg base C 8 "numbered" (spNumbered P w C) := by
  refine met_of D (fun _ _ _ _ _ _ us hl => match us, hl with | [_, _, _], _ => rfl) sc_Links_numbered (fun vs H Q E h => ?_) fun f cdv A outer s H vs Q E hr h => ?_
  · obtain ⟨a, dx, dl, dn, ds, wd, many, en, el, v, l, u, m, rfl, ls, hk, tl, tm, ti, tj, es, q⟩ := h
    rfl
  · obtain ⟨a, dx, dl, dn, ds, wd, many, en, el, v, l, u, m, rfl, ls, hk, tl, tm, ti, tj, es, q⟩ := h
    refine ⟨_, (pss_cons (ps_if (pt_cmpR (op_nNotIn (hu_of64 hr)) (pe_tup (pa_cons (pv 1) (pa_cons (pv 2) pa_nil))) (SlX.pe_sl (pv 0)) (by rfl)) (pss_cons (ps_set (i := 3) sc_Links_numbered.nd rfl (Or.inl rfl) (pe_op op_rep (pe_lst (pa_cons pe_int pa_nil)) (pe_op op_add (SlX.pe_sl (pv 0)) pe_int)))
        (pss_cons (ps_for PassesOwn.never rfl (pi_list (pe_c c_pairs_in hr (by decide) (by rfl) (pa_cons (pv 1) (pa_cons (pv 2) pa_nil)))) (pg_tup (by rfl) (pgs_cons (pg_name (i := 4) sc_Links_numbered.nd rfl (Or.inl rfl)) (pgs_cons (pg_name (i := 5) sc_Links_numbered.nd rfl (Or.inr rfl)) pgs_nil))) (pss_cons (ps_set (i := 6) sc_Links_numbered.nd rfl (Or.inl rfl) (pe_c c_factor_row hr (by decide) (by rfl) (pa_cons (pv 4) (pa_cons (SlX.pe_sl (pv 0)) (pa_cons (SlX.pe_sl (pv 0)) pa_nil)))))
        (pss_one (ps_setLc (i := 3) (own := [("entry", 7), ("more", 8)]) (g := gTup K 2 (gCons (gName 7) (gCons (gName 8) gNil))) (tt := tYes) rfl sc_Links_numbered.nd rfl rfl (sw_true rfl rfl rfl (by decide +kernel)) (RZ.pi_zipA (by rfl) T.zip (pa_cons (pv 3) (pa_cons (pv 6) pa_nil))) (blkOk_by (N := ["self", "one", "other", "found", "numbers", "number", "row", "entry", "more"]) (sc := defScope s_Links_numbered) (by decide +kernel)) (fun _ _ _ _ _ => (pg_tup (by rfl) (pgs_cons (pg_name (i := 7) sc_Links_numbered.nd rfl (Or.inl rfl)) (pgs_cons (pg_name (i := 8) sc_Links_numbered.nd rfl (Or.inl rfl)) pgs_nil)))) (fun _ _ _ _ _ => pts_nil) (fun _ _ _ _ _ => (pe_op op_add (pv 7) (pe_op op_mulW (pv 5) (pv 8))))))))
        (pss_one (ps_asg (pv 3) (pg_sub (SlX.pe_sl (pv 0)) (pe_tup (pa_cons (pv 1) (pa_cons (pv 2) pa_nil))) (set_n (hu_of64 hr))))))) pss_nil)
        (pss_one (ps_ret (pe_nGet (hu_of64 hr) (SlX.pe_sl (pv 0)) (pe_tup (pa_cons (pv 1) (pa_cons (pv 2) pa_nil))) (fun _ _ => rfl))))), ?_⟩
    obtain ⟨pn, sn⟩ := L.numbered
    obtain ⟨pm, sm⟩ := L.many
    obtain ⟨pw, sw⟩ := L.word
    obtain ⟨p1, rfl, r1⟩ := tl
    obtain ⟨p2, rfl, r2⟩ := tm
    have nok := num_ok ti tj hk wd
    have fin : ∀ H', SameL dl dn H H' → ∀ en' v, LS P w C H' a dx dl dn ds wd many en' el → atN en' (l, m) = some v → Q v H' := fun H' s en' v ls' e => by
      obtain ⟨lp, rfl, n1, n2, h⟩ := ls'.cn.get e
      exact q lp H' en' s ls' n1 n2 h
    walk_at "rd"
    refine ⟨by decide, fun q1 hq1 => ?_⟩
    have ls1 := ls.keep (same_upd (o := .tup [.ref p1, .ref p2]) hq1)
    have sq1 : Same H (upd H q1 (.tup [.ref p1, .ref p2])) := same_upd hq1
    have pt1 : PairT (upd H q1 (.tup [.ref p1, .ref p2])) q1 (l, m) := ⟨p1, p2, upd_same, Rd.same (same_upd hq1) r1, Rd.same (same_upd hq1) r2⟩
    generalize upd H q1 (.tup [.ref p1, .ref p2]) = H1 at ls1 sq1 pt1 ⊢
    refine ⟨C, dx, pn, _, ls1.sl, L.cls, 2, sn, _, rfl, dn, rfl, (l, m), pt1, en, ls1.cn.dn_, ?_⟩
    by_cases hat : atN en (l, m) = none
    · rw [if_pos (by rw [hat]; rfl)]
      refine ⟨by decide, fun z hz => ?_⟩
      have ls2 := ls1.keep (same_upd (o := .lst [.int 0]) hz)
      refine ⟨C, dx, pm, _, ls2.sl, L.cls, 1, sm, _, rfl, _, rfl, _, upd_same, by omega, by omega, ?_, fun f1 hf1 => ?_⟩
      · rw [List.length_singleton, Nat.one_mul]
        exact Nat.le_of_lt (smallM (by omega))
      rw [rep_int, show ((many : Int) + 1).toNat = many + 1 by omega]
      have ls3 := ls2.keep (same_upd (o := .lst ((List.replicate (many + 1) (0 : Int)).map V.int)) hf1)
      have s12 : Same H (upd (upd H1 z (.lst [.int 0])) f1 (.lst ((List.replicate (many + 1) (0 : Int)).map V.int))) := Same.upd (Same.upd sq1 hz) hf1
      have s11 : Same H1 (upd (upd H1 z (.lst [.int 0])) f1 (.lst ((List.replicate (many + 1) (0 : Int)).map V.int))) := Same.upd (same_upd hz) hf1
      have e2 : (upd (upd H1 z (.lst [.int 0])) f1 (.lst ((List.replicate (many + 1) (0 : Int)).map V.int))) f1 = some (.lst ((List.replicate (many + 1) (0 : Int)).map V.int)) := upd_same
      have nf1 : f1 ≠ dl := fun z => by have := ls2.cl.dn_.at_; rw [← z, hf1] at this; cases this
      have nf2 : f1 ≠ dn := fun z => by have := ls2.cn.dn_.at_; rw [← z, hf1] at this; cases this
      generalize (upd (upd H1 z (.lst [.int 0])) f1 (.lst ((List.replicate (many + 1) (0 : Int)).map V.int))) = H2 at ls3 s12 s11 e2 ⊢
      refine ⟨.ref p1, l, .ref p2, m, rfl, ⟨p1, rfl, Rd.same s12 r1⟩, ⟨p2, rfl, Rd.same s12 r2⟩, ti, tj, es, fun pp H3 xs s3 e3 px => ⟨pp, rfl, ⟨_, SqL.of' e3⟩, ?_⟩⟩
      have pok := pairs_ok ti tj
      have bnd : ∀ i, i ≤ (pairsM l m).length → Bd (((pairsM l m).take i).foldl (fun found p => List.zipWith (fun e m => e + p.2 * m) found (factorRow p.1 wd many)) (List.replicate (many + 1) 0)) (6020 + i) ∧ (((pairsM l m).take i).foldl (fun found p => List.zipWith (fun e m => e + p.2 * m) found (factorRow p.1 wd many)) (List.replicate (many + 1) 0)).length = many + 1 := fun i hi => by
        have := num_fold (wd := wd) hk ((pairsM l m).take i) (List.replicate (many + 1) 0) 6020 (by omega) (fun x hx => by rw [(List.mem_replicate.mp hx).2]; exact Nat.two_pow_pos _) (by simp) fun d hd => pok.2 d (List.mem_of_mem_take hd)
        rw [List.length_take, Nat.min_eq_left hi] at this
        exact this
      have ls4 := ls3.keep s3
      refine for_it walk_list (fun i σ H' => Same H3 H' ∧ ∃ fi b4 b5 b6, σ = [some (.ref a), some (.ref p1), some (.ref p2), some (.ref fi), b4, b5, b6, none, none] ∧ fi ≠ dl ∧ fi ≠ dn ∧ H' fi = some (.lst ((((pairsM l m).take i).foldl (fun found p => List.zipWith (fun e m => e + p.2 * m) found (factorRow p.1 wd many)) (List.replicate (many + 1) 0)).map V.int))) ⟨Same.refl, f1, _, _, _, rfl, nf1, nf2, s3 _ _ e2⟩ (fun i σ H' _ pv => SqL.of' (pv.1 _ _ e3)) ?_ ?_
      · rintro i x σ H4 H5 hi ⟨s4, fi, b4, b5, b6, rfl, g1, g2, e4⟩ ⟨rfl, hx⟩
        obtain ⟨d, hd, t, c, rfl, ht, hc⟩ := paired_at px hx
        have hi' : i < (pairsM l m).length := (List.getElem?_eq_some_iff.mp hd).1
        have hdp := pok.2 d (List.mem_of_getElem? hd)
        have hbn := (bnd i (by omega)).2
        have hfo : ((pairsM l m).take (i + 1)).foldl (fun found p => List.zipWith (fun e m => e + p.2 * m) found (factorRow p.1 wd many)) (List.replicate (many + 1) 0) = List.zipWith (fun e m => e + d.2 * m) (((pairsM l m).take i).foldl (fun found p => List.zipWith (fun e m => e + p.2 * m) found (factorRow p.1 wd many)) (List.replicate (many + 1) 0)) (factorRow d.1 wd many) := by
          rw [take_push hd, List.foldl_append]
          rfl
        rw [hfo]
        generalize ((pairsM l m).take i).foldl (fun found p => List.zipWith (fun e m => e + p.2 * m) found (factorRow p.1 wd many)) (List.replicate (many + 1) 0) = f at e4 hbn ⊢
        have ls5 := ls4.keep s4
        walk_at "rd"
        refine ⟨_, SqT.of' (s4 _ _ ht), rfl, _, _, rfl, _, _, rfl, rfl, ?_⟩
        refine ⟨C, dx, pw, _, ls5.sl, L.cls, 4, sw, _, rfl, C, dx, pm, _, ls5.sl, L.cls, 1, sm, _, rfl, ?_⟩
        refine ⟨c, d.1, wd, many, rfl, s4 _ _ hc, hdp.1, hdp.2.1, by omega, fun rw_ H6 s6 e6 => ?_⟩
        refine ⟨rw_, rfl, _, _, .inl ⟨SqL.of' (s6 _ _ e4), SqL.of' e6, fun D hD => ?_⟩⟩
        have frl := fr_len d.1 wd many
        have frb := fr_bd hdp.1 hdp.2.1 hk wd
        generalize factorRow d.1 wd many = r at e6 frl frb ⊢
        have e46 := s6 _ _ e4
        refine lc_it (walk_zip rfl) (Mk1 (fun _ v d => v = .int d) (fun k => (List.zipWith (fun e m => e + d.2 * m) f r).take k) H6 D) (Mk1.zero rfl hD) (fun k H7 _ mk => ⟨SqL.of' (mk.same _ _ e46), SqL.of' (mk.same _ _ e6)⟩) ?_ ?_
        · rintro k x H7 H8 hk' mk ⟨T2, x1, x2, rfl, hT2, rfl, hx1, hx2⟩
          obtain ⟨z1, hz1, rfl, _⟩ := at_ints hx1
          obtain ⟨z2, hz2, rfl, hz2m⟩ := at_ints hx2
          walk_at "rd"
          refine ⟨_, SqT.of' upd_same, rfl, _, _, rfl, _, _, rfl, rfl, ?_⟩
          have hzw : (List.zipWith (fun e m => e + d.2 * m) f r)[k]? = some (z1 + d.2 * z2) := by
            rw [List.getElem?_zipWith, hz1, hz2]
          refine ⟨_, rfl, wide_mul hdp.2.2 (frb z2 hz2m) (by decide) (by decide) (by decide), _, rfl, mk.push keeps_int hD (same_upd hT2) rfl (take_push hzw) ?_⟩
          rw [List.length_take]
          rw [List.length_zipWith, hbn, frl]
          exact smallM (by omega)
        · intro H7 mk
          have e7 := mk.ints
          rw [List.take_of_length_le (by simp)] at e7
          have nD : ∀ b o, H6 b = some o → D ≠ b := fun b o e z => by rw [z, e] at hD; cases hD
          have ls6 := ls5.keep s6
          exact ⟨Same.trans s4 (Same.trans s6 mk.same), nD _ _ ls6.cl.dn_.at_, nD _ _ ls6.cn.dn_.at_, e7⟩
      · rintro σ H4 ⟨s4, fi, b4, b5, b6, rfl, g1, g2, e4⟩
        rw [paired_len px, List.take_length] at e4
        have ls5 := ls4.keep s4
        have s14 : Same H1 H4 := Same.trans s11 (Same.trans s3 s4)
        have sh4 : Same H H4 := Same.trans sq1 s14
        walk_at "rd"
        refine ⟨C, dx, pn, _, ls5.sl, L.cls, 2, sn, _, rfl, by decide, fun q2 hq2 => ⟨dn, rfl, (l, m), ⟨p1, p2, upd_same, Rd.same (same_upd hq2) (Rd.same sh4 r1), Rd.same (same_upd hq2) (Rd.same sh4 r2)⟩, en, (ls5.keep (same_upd hq2)).cn.dn_, hat, ls.cn.len, ?_⟩⟩
        have ls6 := ls5.keep (same_upd (o := .tup [.ref p1, .ref p2]) hq2)
        have sh6 : Same H (upd H4 q2 (.tup [.ref p1, .ref p2])) := Same.upd sh4 hq2
        have e6 : (upd H4 q2 (.tup [.ref p1, .ref p2])) fi = some (.lst ((numberedM wd many l m).map V.int)) := same_upd hq2 _ _ e4
        have pt6 : PairT (upd H4 q2 (.tup [.ref p1, .ref p2])) q2 (l, m) := ⟨p1, p2, upd_same, Rd.same (same_upd hq2) (Rd.same sh4 r1), Rd.same (same_upd hq2) (Rd.same sh4 r2)⟩
        generalize (upd H4 q2 (.tup [.ref p1, .ref p2])) = H6 at ls6 sh6 e6 pt6 ⊢
        have ls7 := ls6.putn hat pt6 (mem_dom ti tj es) g1 g2 e6
        have sl7 : SameL dl dn H (upd H6 dn (DNo P w dn (en ++ [((l, m), q2, .ref fi)]))) := fun b o b1 b2 eb => by
          rw [upd_ne b2]
          exact sh6 _ _ eb
        have kt7 : KeepT H (upd H6 dn (DNo P w dn (en ++ [((l, m), q2, .ref fi)]))) := ls.kt sl7
        generalize (upd H6 dn (DNo P w dn (en ++ [((l, m), q2, .ref fi)]))) = H7 at ls7 sl7 kt7 ⊢
        refine ⟨C, dx, pn, _, ls7.sl, L.cls, 2, sn, _, rfl, by decide, fun q3 hq3 => ⟨dn, rfl, (l, m), ⟨p1, p2, upd_same, Rd.same (same_upd hq3) (kt7.rd r1), Rd.same (same_upd hq3) (kt7.rd r2)⟩, _, (ls7.keep (same_upd hq3)).cn.dn_, _, at_snoc hat, ?_⟩⟩
        exact fin _ (SameL.trans sl7 (Same.l (same_upd hq3))) _ _ (ls7.keep (same_upd hq3)) (at_snoc hat)
    · rw [if_neg (by cases e : atN en (l, m) with
        | none => exact absurd e hat
        | some v => simp)]
      obtain ⟨v, hv⟩ : ∃ v, atN en (l, m) = some v := by
        cases e : atN en (l, m) with
        | none => exact absurd e hat
        | some v => exact ⟨v, rfl⟩
      refine ⟨C, dx, pn, _, ls1.sl, L.cls, 2, sn, _, rfl, by decide, fun q2 hq2 => ⟨dn, rfl, (l, m), ⟨p1, p2, upd_same, Rd.same (same_upd hq2) (Rd.same sq1 r1), Rd.same (same_upd hq2) (Rd.same sq1 r2)⟩, en, (ls1.keep (same_upd hq2)).cn.dn_, v, hv, ?_⟩⟩
      exact fin _ (Same.l (Same.upd sq1 hq2)) en v (ls1.keep (same_upd hq2)) hv
end
end K53
namespace K53
open PySem PySem.Spec PyProof.Rows L2
local macro_rules | `(tactic| walk_at "rd") => `(tactic| simp only [ap_seq, ap_next, ap_drop, ap_ret, ap_retN, ap_ifS, ap_asg, ap_par, ap_par3, ap_aug, ap_nm, ap_test, ap_tB, ap_and, ap_or, ap_not, ap_if, ap_andV, ap_notV, ap_op, ap_un, ap_c, ap_var, ap_nil, ap_cons, ap_tup, ap_lst, ap_cl, ap_cb, ap_bm, ap_bm0, ap_sl, ap_nopart, ap_part, ap_never, ap_chain, ap_fld, ap_gtup, ap_gcons, ap_gnil, ap_yes, ap_revL, ap_star,
  r_I, r_I0, r_U, r_eq, r_ne, r_isi, r_ixT, r_ixL, r_gcd, r_comb, r_sumT, r_sum, r_app, r_setI, ap_sSl, ap_nnew, r_nni, r_nget, r_nput, ap_mt, r_gixL, ap_augS, r_ipI, ap_tupB, ap_cnt, r_slB, cx_w, cx_P, r_sSet, r_cntT, r_setL, ap_gsub, ap_dcT, ap_dispT, ap_dnewT, ap_dget, ap_dget2, ap_dput, w_itemsT, w_keys, r_rep, r_sorted, r_slL, r_in, ap_lc2, w_enumT, ap_for, ap_lc, w_tup, w_list, w_r1, w_r2, w_enum, w_zip, cx_K, cx_Kn, wipe,
  L2.start, List.length_cons, List.length_nil, List.map_cons, List.map_nil, List.cons_append, List.nil_append, List.replicate, Nat.zero_add, Nat.reduceAdd, Nat.reduceSub, List.set_cons_zero, List.set_cons_succ,
  List.getElem?_cons_zero, List.getElem?_cons_succ, Option.some.injEq, V.int.injEq, V.bl.injEq, V.str.injEq, V.ref.injEq, exists_eq_left, exists_eq_left', List.cons.injEq, and_true, true_and, and_assoc, scal, exists_and_left, decide_eq_true_eq, bne_iff_ne, Bool.not_eq_true', decide_eq_false_iff_not, if_true, if_false, Bool.false_eq_true, Bool.true_eq_false, if_pos, ite_true, ite_false, Bool.not_true, Bool.not_false])
section
variable {P : Program} {w : World} {K : PySem.W.Frag} {mg : Str → Option Value} {base : Heap} {C : Addr}
theorem linked_step (T : Tx K mg) (L : LkT K C) (n : Nat) (c_numbered : CalM P w K mg base C 8 "numbered" (spNumbered P w C)) (c_partings : CalM P w K mg base C 8 "partings" (spPartings C)) (c_put_beside : CalM P w K mg base C 8 "put_beside" (spBeside C)) (c_linked : CalM P w K mg base C (8 + n) "linked" (spLinked n P w C)) (D : MetAt K C "linked" "Links.linked" s_Links_linked) : CalM P w K mg base C (8 + n + 1) "linked" (spLinked (n + 1) P w C) := by
  refine met_of D (fun _ _ _ _ _ _ us hl => match us, hl with | [_, _, _], _ => rfl) sc_Links_linked (fun vs H Q E h => ?_) fun f cdv A outer s H vs Q E hr h => ?_
  · obtain ⟨a, dx, dl, dn, ds, wd, many, en, el, v, l, u, m, rfl, _⟩ := h
    rfl
  · obtain ⟨a, dx, dl, dn, ds, wd, many, en, el, v, l, u, m, rfl, ls, hk, ⟨p1, rfl, r1⟩, ⟨p2, rfl, r2⟩, ti, tj, es, hne, hln, q⟩ := h
    obtain ⟨pl, sl⟩ := L.linked
    have fin : ∀ H', SameL dl dn H H' → ∀ en' el' v, LS P w C H' a dx dl dn ds wd many en' el' → (∀ k : PK2, atN el k = none → l.length < k.1.length → atN el' k = none) → atN el' (l, m) = some v → Q v H' := fun H' s en' el' v ls' ka e => by
      obtain ⟨lp, rfl, n1, n2, h⟩ := ls'.cl.get e
      exact q lp H' en' el' s ls' ka n1 n2 h
    refine ⟨_, (pss_cons (ps_if (pt_cmpR (op_nNotIn (hu_of64 hr)) (pe_tup (pa_cons (pv 1) (pa_cons (pv 2) pa_nil))) (SlX.pe_sl (pv 0)) (by rfl)) (pss_cons (ps_set (i := 3) sc_Links_linked.nd rfl (Or.inl rfl) (pe_m c_numbered hr (by first | decide | omega) L (pv 0) (pa_cons (pv 1) (pa_cons (pv 2) pa_nil))))
        (pss_cons (ps_for PassesOwn.never rfl (pi_list (pe_m c_partings hr (by first | decide | omega) L (pv 0) (pa_cons (pv 1) (pa_cons (pv 2) pa_nil)))) (pg_tup (by rfl) (pgs_cons (pg_name (i := 4) sc_Links_linked.nd rfl (Or.inl rfl)) (pgs_cons (pg_name (i := 5) sc_Links_linked.nd rfl (Or.inl rfl)) (pgs_cons (pg_name (i := 6) sc_Links_linked.nd rfl (Or.inl rfl)) pgs_nil)))) (pss_cons (ps_set (i := 7) sc_Links_linked.nd rfl (Or.inl rfl) (pe_m c_put_beside hr (by first | decide | omega) L (pv 0) (pa_cons (pe_m c_linked hr (by first | decide | omega) L (pv 0) (pa_cons (pe_ix ix_tup (pv 4) pe_int (fun _ _ => rfl)) (pa_cons (pe_ix ix_tup (pv 4) pe_int (fun _ _ => rfl)) pa_nil))) (pa_cons (pe_m c_numbered hr (by first | decide | omega) L (pv 0) (pa_cons (pe_ix ix_tup (pv 5) pe_int (fun _ _ => rfl)) (pa_cons (pe_ix ix_tup (pv 5) pe_int (fun _ _ => rfl)) pa_nil))) (pa_cons (pv 6) pa_nil)))))
        (pss_one (ps_setLc (i := 3) (own := [("entry", 8), ("number", 9)]) (g := gTup K 2 (gCons (gName 8) (gCons (gName 9) gNil))) (tt := tYes) rfl sc_Links_linked.nd rfl rfl (sw_true rfl rfl rfl (by decide +kernel)) (RZ.pi_zipA (by rfl) T.zip (pa_cons (pv 3) (pa_cons (pv 7) pa_nil))) (blkOk_by (N := ["self", "one", "other", "found", "first", "rest", "ways", "less", "entry", "number"]) (sc := defScope s_Links_linked) (by decide +kernel)) (fun _ _ _ _ _ => (pg_tup (by rfl) (pgs_cons (pg_name (i := 8) sc_Links_linked.nd rfl (Or.inl rfl)) (pgs_cons (pg_name (i := 9) sc_Links_linked.nd rfl (Or.inl rfl)) pgs_nil)))) (fun _ _ _ _ _ => pts_nil) (fun _ _ _ _ _ => (pe_op op_sub (pv 8) (pv 9)))))))
        (pss_one (ps_asg (pv 3) (pg_sub (SlX.pe_sl (pv 0)) (pe_tup (pa_cons (pv 1) (pa_cons (pv 2) pa_nil))) (set_n (hu_of64 hr))))))) pss_nil)
        (pss_one (ps_ret (pe_nGet (hu_of64 hr) (SlX.pe_sl (pv 0)) (pe_tup (pa_cons (pv 1) (pa_cons (pv 2) pa_nil))) (fun _ _ => rfl))))), ?_⟩
    walk_at "rd"
    refine ⟨by decide, fun q1 hq1 => ?_⟩
    have ls1 := ls.keep (same_upd (o := .tup [.ref p1, .ref p2]) hq1)
    have sq1 : Same H (upd H q1 (.tup [.ref p1, .ref p2])) := same_upd hq1
    have pt1 : PairT (upd H q1 (.tup [.ref p1, .ref p2])) q1 (l, m) := ⟨p1, p2, upd_same, Bare.rd (Bare.same (same_upd hq1) r1), Bare.rd (Bare.same (same_upd hq1) r2)⟩
    generalize upd H q1 (.tup [.ref p1, .ref p2]) = H1 at ls1 sq1 pt1 ⊢
    refine ⟨C, dx, pl, _, ls1.sl, L.cls, 0, sl, _, rfl, dl, rfl, (l, m), pt1, el, ls1.cl.dn_, ?_⟩
    by_cases hat : atN el (l, m) = none
    · rw [if_pos (by rw [hat]; rfl)]
      have rr1 := Bare.rd (Bare.same sq1 r1)
      refine ⟨dx, _, ls1.sl, a, dx, dl, dn, ds, wd, many, en, el, .ref p1, l, .ref p2, m, rfl, ls1, hk, ⟨p1, rfl, Bare.rd (Bare.same sq1 r1)⟩, ⟨p2, rfl, Bare.rd (Bare.same sq1 r2)⟩, ti, tj, es, fun l0 H2 en2 s2 ls2 g1 g2 e2 => ?_⟩
      have s02 : SameL dl dn H H2 := SameL.trans (Same.l sq1) s2
      have bk : ∀ {Hx : Hp} {b : Addr} {xs : List V}, SameL dl dn H Hx → Bare H b xs → Bare Hx b xs := fun {Hx b xs} sx hb => by
        obtain ⟨o, ho, hd⟩ := hb
        exact ⟨o, ls.kt sx b _ trivial ho, hd⟩
      refine ⟨dx, _, ls2.sl, .ref a, .ref p1, l, .ref p2, m, rfl, ⟨p1, rfl, bk s02 r1⟩, ⟨p2, rfl, bk s02 r2⟩, hne, ti, tj, fun pp H3 xs s3 e3 px => ⟨pp, rfl, ⟨_, SqL.of' e3⟩, ?_⟩⟩
      obtain ⟨k, hlk⟩ : ∃ k, l.length = k + 1 := ⟨l.length - 1, by have := List.length_pos_iff.mpr hne; omega⟩
      obtain ⟨pl1, pl2⟩ := part_ok ti tj es hne
      have ls3 := ls2.keep s3
      have s03 : SameL dl dn H H3 := SameL.trans s02 (Same.l s3)
      have npp1 : pp ≠ dl := fun z => by have := ls3.cl.dn_.at_; rw [← z, e3] at this; cases this
      have npp2 : pp ≠ dn := fun z => by have := ls3.cn.dn_.at_; rw [← z, e3] at this; cases this
      let part : Nat → LI := fun i => ((partM l m).take i).foldl (lnkStep wd many k) (numberedM wd many l m)
      have plen : ∀ i, i ≤ (partM l m).length → (part i).length = many + 1 := fun i hi => by
        have := fold_bd (wd := wd) (f := k) (b := 7000 + 50000 * k) hk (l := l) (m := m) ((partM l m).take i) (numberedM wd many l m) (7000 + 50000 * k + 6300) (fun p hp => pl2 p (List.mem_of_mem_take hp)) (fun p hp => by
          have pp := pl2 p (List.mem_of_mem_take hp)
          exact lnk_ok hk k _ _ pp.t1 pp.t2 pp.e1 pp.ne) ((num_ok ti tj hk wd).1.mono (by omega)) (num_ok ti tj hk wd).2 (by omega)
        exact this.2
      refine for_it walk_list (fun i σ H' => ∃ en' el' fi b4 b5 b6 b7, σ = [some (.ref a), some (.ref p1), some (.ref p2), some (.ref fi), b4, b5, b6, b7, none, none] ∧ SameL dl dn H3 H' ∧ LS P w C H' a dx dl dn ds wd many en' el' ∧ (∀ k : PK2, atN el k = none → l.length ≤ k.1.length → atN el' k = none) ∧ fi ≠ dl ∧ fi ≠ dn ∧ H' fi = some (.lst ((part i).map V.int))) ⟨en2, el, l0, _, _, _, _, rfl, SameL.refl, ls3, fun _ z _ => z, g1, g2, s3 _ _ e2⟩ (fun i σ H' _ pv => by obtain ⟨_, _, _, _, _, _, _, _, s, _⟩ := pv; exact SqL.of' (s _ _ npp1 npp2 e3)) ?_ ?_
      · rintro i x σ H4 H5 hi ⟨en4, el4, fi, b4, b5, b6, b7, rfl, s4, ls4, ka4, f1, f2, e4⟩ ⟨rfl, hx⟩
        obtain ⟨d, hd, t, c1, c2, rfl, ht, ⟨x1, x2, hc1, bx1, bx2⟩, ⟨y1, y2, hc2, by1, by2⟩⟩ := paired_at px hx
        have hi' : i < (partM l m).length := (List.getElem?_eq_some_iff.mp hd).1
        have pd := pl2 d (List.mem_of_getElem? hd)
        have kt4 : KeepT H3 H5 := ls3.kt s4
        have ht4 := kt4.tup ht
        have hc14 := kt4.tup hc1
        have hc24 := kt4.tup hc2
        have bk4 : ∀ {Hx : Hp} {b : Addr} {xs : List V}, SameL dl dn H3 Hx → Bare H3 b xs → Bare Hx b xs := fun {Hx b xs} sx hb => by
          obtain ⟨o, ho, hd⟩ := hb
          exact ⟨o, ls3.kt sx b _ trivial ho, hd⟩
        have hgl := plen i (by omega)
        have hps : part (i + 1) = lnkStep wd many k (part i) d := by
          show ((partM l m).take (i + 1)).foldl (lnkStep wd many k) (numberedM wd many l m) = _
          rw [take_push hd, List.foldl_append]
          rfl
        walk_at "rd"
        refine ⟨_, SqT.of' ht4, rfl, _, _, rfl, _, _, rfl, _, _, rfl, rfl, ?_⟩
        refine ⟨dx, _, ls4.sl, dx, _, ls4.sl, _, rfl, _, SqT.of' hc14, _, at0, _, rfl, _, SqT.of' hc14, _, at1, ?_⟩
        refine ⟨a, dx, dl, dn, ds, wd, many, en4, el4, .ref x1, d.1.1, .ref x2, d.1.2, rfl, ls4, hk, ⟨x1, rfl, bk4 s4 bx1⟩, ⟨x2, rfl, bk4 s4 bx2⟩, pd.t1, pd.t2, pd.e1, pd.ne, by have := pd.lt; omega, fun l5 H6 en6 el6 s6 ls6 ka6 n51 n52 e6 => ?_⟩
        have s36 : SameL dl dn H3 H6 := SameL.trans s4 s6
        have hc26 := (ls3.kt s36).tup hc2
        refine ⟨dx, _, ls6.sl, _, rfl, _, SqT.of' hc26, _, at0, _, rfl, _, SqT.of' hc26, _, at1, ?_⟩
        refine ⟨a, dx, dl, dn, ds, wd, many, en6, el6, .ref y1, d.2.1.1, .ref y2, d.2.1.2, rfl, ls6, hk, ⟨y1, rfl, Bare.rd (bk4 s36 by1)⟩, ⟨y2, rfl, Bare.rd (bk4 s36 by2)⟩, pd.t3, pd.t4, pd.e2, fun l7 H7 en7 s7 ls7 n71 n72 e7 => ?_⟩
        have e67 := s7 _ _ n51 n52 e6
        have lk := lnk_ok (wd := wd) hk d.1.1.length d.1.1 d.1.2 pd.t1 pd.t2 pd.e1 pd.ne
        have nk := num_ok pd.t3 pd.t4 hk wd
        have len1 := pd.t1.len
        refine ⟨a, dx, dl, dn, ds, wd, many, l5, l7, _, _, d.2.2, rfl, ls7.sl, hk, e67, e7, lk.2, nk.2, Nat.lt_of_lt_of_le pd.wb (Nat.pow_le_pow_right (by decide) (by decide)), lk.1.mono (by omega), nk.1.mono (by omega), fun l8 H8 n8 s8 e8 => ?_⟩
        have s38 : SameL dl dn H3 H8 := SameL.trans s36 (SameL.trans s7 (Same.l s8))
        have ls8 := ls7.keep s8
        have e48 : H8 fi = some (.lst ((part i).map V.int)) := s8 _ _ (s7 _ _ f1 f2 (s6 _ _ f1 f2 e4))
        have hfu : linkedM wd many d.1.1.length d.1.1 d.1.2 = linkedM wd many k d.1.1 d.1.2 := (lnk_fuel k _ _ pd.t1 pd.t2 pd.e1 pd.ne (by have := pd.lt; omega)).symm
        rw [hfu] at e8
        have hbl : (besideM wd many (linkedM wd many k d.1.1 d.1.2) (numberedM wd many d.2.1.1 d.2.1.2) d.2.2).length = many + 1 := by
          unfold besideM
          rw [beside_len, List.length_replicate]
        refine ⟨l8, rfl, _, _, .inl ⟨SqL.of' e48, SqL.of' e8, fun D hD => ?_⟩⟩
        have hstep : part (i + 1) = List.zipWith (fun e n => e - n) (part i) (besideM wd many (linkedM wd many k d.1.1 d.1.2) (numberedM wd many d.2.1.1 d.2.1.2) d.2.2) := hps
        rw [hstep]
        generalize besideM wd many (linkedM wd many k d.1.1 d.1.2) (numberedM wd many d.2.1.1 d.2.1.2) d.2.2 = r at e8 hbl ⊢
        generalize part i = g at e48 hgl ⊢
        refine lc_it (walk_zip rfl) (Mk1 (fun _ v d => v = .int d) (fun j => (List.zipWith (fun e n => e - n) g r).take j) H8 D) (Mk1.zero rfl hD) (fun j H9 _ mk => ⟨SqL.of' (mk.same _ _ e48), SqL.of' (mk.same _ _ e8)⟩) ?_ ?_
        · rintro j x H9 H10 hj mk ⟨T2, z1, z2, rfl, hT2, rfl, hz1, hz2⟩
          obtain ⟨w1, hw1, rfl, _⟩ := at_ints hz1
          obtain ⟨w2, hw2, rfl, _⟩ := at_ints hz2
          walk_at "rd"
          refine ⟨_, SqT.of' upd_same, rfl, _, _, rfl, _, _, rfl, rfl, ?_⟩
          have hzw : (List.zipWith (fun e n => e - n) g r)[j]? = some (w1 - w2) := by
            rw [List.getElem?_zipWith, hw1, hw2]
          refine ⟨_, rfl, _, rfl, mk.push keeps_int hD (same_upd hT2) rfl (take_push hzw) ?_⟩
          rw [List.length_take, List.length_zipWith, hgl, hbl]
          exact smallM (by omega)
        · intro H9 mk
          have e9 := mk.ints
          rw [List.take_of_length_le (by simp)] at e9
          have nD : ∀ b o, H8 b = some o → D ≠ b := fun b o e z => by rw [z, e] at hD; cases hD
          refine ⟨SameL.trans s38 (Same.l mk.same), en7, el6, ls8.keep mk.same, fun kk z1 z2 => ka6 kk (ka4 kk z1 z2) (by have := pd.lt; omega), nD _ _ ls8.cl.dn_.at_, nD _ _ ls8.cn.dn_.at_, e9⟩
      · rintro σ H4 ⟨en4, el4, fi, b4, b5, b6, b7, rfl, s4, ls4, ka4, f1, f2, e4⟩
        rw [paired_len px] at e4
        have hfull : part (partM l m).length = linkedM wd many l.length l m := by
          show ((partM l m).take _).foldl (lnkStep wd many k) (numberedM wd many l m) = _
          rw [List.take_length, hlk, lnk_succ]
        rw [hfull] at e4
        have s04 : SameL dl dn H H4 := SameL.trans s03 s4
        have hat4 := ka4 (l, m) hat (Nat.le_refl _)
        walk_at "rd"
        refine ⟨C, dx, pl, _, ls4.sl, L.cls, 0, sl, _, rfl, by decide, fun q2 hq2 => ⟨dl, rfl, (l, m), ⟨p1, p2, upd_same, Bare.rd (Bare.same (same_upd hq2) (bk s04 r1)), Bare.rd (Bare.same (same_upd hq2) (bk s04 r2))⟩, el4, (ls4.keep (same_upd hq2)).cl.dn_, hat4, ls4.cl.len, ?_⟩⟩
        have ls6 := ls4.keep (same_upd (o := .tup [.ref p1, .ref p2]) hq2)
        have sh6 : SameL dl dn H (upd H4 q2 (.tup [.ref p1, .ref p2])) := SameL.trans s04 (Same.l (same_upd hq2))
        have e6 : (upd H4 q2 (.tup [.ref p1, .ref p2])) fi = some (.lst ((linkedM wd many l.length l m).map V.int)) := same_upd hq2 _ _ e4
        have pt6 : PairT (upd H4 q2 (.tup [.ref p1, .ref p2])) q2 (l, m) := ⟨p1, p2, upd_same, Bare.rd (Bare.same (same_upd hq2) (bk s04 r1)), Bare.rd (Bare.same (same_upd hq2) (bk s04 r2))⟩
        generalize (upd H4 q2 (.tup [.ref p1, .ref p2])) = H6 at ls6 sh6 e6 pt6 ⊢
        have ls7 := ls6.putl hat4 pt6 (mem_dom ti tj es) f1 f2 e6
        have sl7 : SameL dl dn H (upd H6 dl (DNo P w dl (el4 ++ [((l, m), q2, .ref fi)]))) := fun b o b1 b2 eb => by
          rw [upd_ne b1]
          exact sh6 _ _ b1 b2 eb
        generalize (upd H6 dl (DNo P w dl (el4 ++ [((l, m), q2, .ref fi)]))) = H7 at ls7 sl7 ⊢
        refine ⟨C, dx, pl, _, ls7.sl, L.cls, 0, sl, _, rfl, by decide, fun q3 hq3 => ⟨dl, rfl, (l, m), ⟨p1, p2, upd_same, Bare.rd (Bare.same (same_upd hq3) (bk sl7 r1)), Bare.rd (Bare.same (same_upd hq3) (bk sl7 r2))⟩, _, (ls7.keep (same_upd hq3)).cl.dn_, _, at_snoc hat4, ?_⟩⟩
        exact fin _ (SameL.trans sl7 (Same.l (same_upd hq3))) _ _ _ (ls7.keep (same_upd hq3)) (fun kk z1 z2 => at_snoc_ne (ka4 kk z1 (by omega)) (fun z => by rw [← z] at z2; exact absurd z2 (Nat.lt_irrefl _))) (at_snoc hat4)
    · rw [if_neg (by cases e : atN el (l, m) with
        | none => exact absurd e hat
        | some v => simp)]
      obtain ⟨v, hv⟩ : ∃ v, atN el (l, m) = some v := by
        cases e : atN el (l, m) with
        | none => exact absurd e hat
        | some v => exact ⟨v, rfl⟩
      refine ⟨C, dx, pl, _, ls1.sl, L.cls, 0, sl, _, rfl, by decide, fun q2 hq2 => ⟨dl, rfl, (l, m), ⟨p1, p2, upd_same, Bare.rd (Bare.same (same_upd hq2) (Bare.same sq1 r1)), Bare.rd (Bare.same (same_upd hq2) (Bare.same sq1 r2))⟩, el, (ls1.keep (same_upd hq2)).cl.dn_, v, hv, ?_⟩⟩
      exact fin _ (Same.l (Same.upd sq1 hq2)) en el v (ls1.keep (same_upd hq2)) (fun _ z _ => z) hv
end
end K53
namespace K53
open PySem PySem.Spec PyProof.Rows L2
local macro_rules | `(tactic| walk_at "rd") => `(tactic| simp only [ap_seq, ap_next, ap_drop, ap_ret, ap_retN, ap_ifS, ap_asg, ap_par, ap_par3, ap_aug, ap_nm, ap_test, ap_tB, ap_and, ap_or, ap_not, ap_if, ap_andV, ap_notV, ap_op, ap_un, ap_c, ap_var, ap_nil, ap_cons, ap_tup, ap_lst, ap_cl, ap_cb, ap_bm, ap_bm0, ap_sl, ap_nopart, ap_part, ap_never, ap_chain, ap_fld, ap_gtup, ap_gcons, ap_gnil, ap_yes, ap_revL, ap_star,
  r_I, r_I0, r_U, r_eq, r_ne, r_isi, r_ixT, r_ixL, r_gcd, r_comb, r_sumT, r_sum, r_app, r_setI, ap_mk, ap_cw, ap_ck, ap_sSl, ap_nnew, r_nni, r_nget, r_nput, ap_mt, r_gixL, ap_augS, r_ipI, ap_tupB, ap_cnt, r_slB, cx_w, cx_P, r_sSet, r_cntT, r_setL, ap_gsub, ap_dcT, ap_dispT, ap_dnewT, ap_dget, ap_dget2, ap_dput, w_itemsT, w_keys, r_rep, r_sorted, r_slL, r_in, ap_lc2, w_enumT, ap_for, ap_lc, w_tup, w_list, w_r1, w_r2, w_enum, w_zip, cx_K, cx_Kn, wipe,
  L2.start, List.length_cons, List.length_nil, List.map_cons, List.map_nil, List.cons_append, List.nil_append, List.replicate, Nat.zero_add, Nat.reduceAdd, Nat.reduceSub, List.set_cons_zero, List.set_cons_succ,
  List.getElem?_cons_zero, List.getElem?_cons_succ, Option.some.injEq, V.int.injEq, V.bl.injEq, V.str.injEq, V.ref.injEq, exists_eq_left, exists_eq_left', List.cons.injEq, and_true, true_and, and_assoc, scal, exists_and_left, decide_eq_true_eq, bne_iff_ne, Bool.not_eq_true', decide_eq_false_iff_not, if_true, if_false, Bool.false_eq_true, Bool.true_eq_false, if_pos, ite_true, ite_false, Bool.not_true, Bool.not_false])
section
variable {P : Program} {w : World} {K : PySem.W.Frag} {mg : Str → Option Value} {base : Heap} {C : Addr}
theorem ok_linked (T : Tx K mg) (L : LkT K C) (c_numbered : CalM P w K mg base C 8 "numbered" (spNumbered P w C)) (c_partings : CalM P w K mg base C 8 "partings" (spPartings C)) (c_put_beside : CalM P w K mg base C 8 "put_beside" (spBeside C)) (D : MetAt K C "linked" "Links.linked" s_Links_linked) : ∀ n, CalM P w K mg base C (8 + n) "linked" (spLinked n P w C)
  | 0 => by
    obtain ⟨f, fd, F, hm⟩ := D.ex
    refine ⟨f, fun A outer s H us vs Q E hr e0 r h => ?_, hm⟩
    obtain ⟨a, dx, dl, dn, ds, wd, many, en, el, v, l, u, m, _, _, _, _, _, _, _, _, hne, hl, _⟩ := h
    exact absurd (List.eq_nil_of_length_eq_zero (Nat.le_zero.mp hl)) hne
  | n + 1 => linked_step T L n c_numbered c_partings c_put_beside (ok_linked T L c_numbered c_partings c_put_beside D n) D
theorem ok_share_of (c_fraction_in : Cal P w K mg base 1 "fraction_in" spFrac) (c_members_product : Cal P w K mg base 1 "members_product" spMembers) (D : DefAt K mg "share_of" s_share_of) : Cal P w K mg base 2 "share_of" spShareOf := by
  refine cal_of D (fun _ _ _ _ _ _ us hl => match us, hl with | [_, _, _], _ => rfl) sc_share_of (fun vs H Q E h => ?_) fun f cdv A outer s H vs Q E hr h => ?_
  · obtain ⟨v, l, u, m, n, rfl, tl, tm, ti, tj, q⟩ := h
    rfl
  · obtain ⟨v, l, u, m, n, rfl, tl, tm, ti, tj, q⟩ := h
    refine ⟨_, (pss_one (ps_ret (pe_c c_fraction_in hr (by decide) (by rfl) (pa_cons (pv 2) (pa_cons (pe_op op_mulW (pe_c c_members_product hr (by decide) (by rfl) (pa_cons (pv 0) pa_nil)) (pe_c c_members_product hr (by decide) (by rfl) (pa_cons (pv 1) pa_nil))) pa_nil))))), ?_⟩
    walk_at "rd"
    obtain ⟨a1, a2⟩ := prod_ok ti
    obtain ⟨b1, b2⟩ := prod_ok tj
    refine ⟨v, l, rfl, tl, fun x hx => by have := ti.mem hx; omega, by have := ti.len; omega, u, m, rfl, tm, fun x hx => by have := tj.mem hx; omega, by have := tj.len; omega, _, rfl, _, rfl, wide_mul a2 b2 (by decide) (by decide) (by decide), n, _, rfl, Int.mul_pos a1 b1, ?_, fun p hp => q p _ (same_upd hp) upd_same⟩
    exact Nat.lt_of_lt_of_le (wide_lt a2 b2) (Nat.pow_le_pow_right (by decide) (by decide))
end
section
variable {P : Program} {w : World} {K : PySem.W.Frag} {mg : Str → Option Value} {base : Heap} {C : Addr}
theorem ok_linked_in (L : LkT K C) (M : LkM K mg C) (c_share_of : Cal P w K mg base 2 "share_of" spShareOf) (c_init : CalM P w K mg base C 1 "__init__" (spInit P w C)) (c_linked : CalM P w K mg base C 15 "linked" (spLinked 7 P w C)) (D : DefAt K mg "linked_in" s_linked_in) : Cal P w K mg base 16 "linked_in" spLinkedIn := by
  refine cal_of D (fun _ _ _ _ _ _ us hl => match us, hl with | [_, _, _, _], _ => rfl) sc_linked_in (fun vs H Q E h => ?_) fun f cdv A outer s H vs Q E hr h => ?_
  · obtain ⟨v, l, u, m, k, b, rfl, _⟩ := h
    rfl
  · obtain ⟨v, l, u, m, k, b, rfl, tl, tm, ti, tj, es, hne, hk, q⟩ := h
    refine ⟨_, (pss_one (ps_ret (pe_c c_share_of hr (by decide) (by rfl) (pa_cons (pv 0) (pa_cons (pv 1) (pa_cons (pe_ix ix_list (pe_m c_linked hr (by first | decide | omega) L (pe_mk c_init M hr (by decide) (by rfl) (pa_cons (pv 3) (pa_cons (pv 2) pa_nil))) (pa_cons (pv 0) (pa_cons (pv 1) pa_nil))) (pv 2) (fun _ _ => rfl)) pa_nil)))))), ?_⟩
    walk_at "rd"
    refine fun x dx hx hdx nx => ⟨x, dx, b, k, rfl, upd_same, nx, fun dl dn ds H1 hl hn ls1 s1 => ⟨rfl, dx, _, ls1.sl, ?_⟩⟩
    have old : Same H H1 := fun b o eb => s1 b o (ne_of_none eb hx) (ne_of_none eb hdx) (by rw [upd_ne (ne_of_none eb hx), upd_ne (ne_of_none eb hdx)]; exact eb)
    refine ⟨x, dx, dl, dn, ds, b, k, [], [], v, l, u, m, rfl, ls1, hk, tl.mono old, tm.mono old, ti, tj, es, hne, ti.len, fun lp H2 en el s2 ls2 _ n1 n2 e2 => ?_⟩
    have lk := lnk_ok (wd := b) hk l.length l m ti tj es hne
    have at_ : ((linkedM b k l.length l m).map V.int)[k]? = some (.int ((linkedM b k l.length l m).getD k 0)) := by
      rw [List.getElem?_map, List.getD_eq_getElem?_getD, List.getElem?_eq_getElem (by rw [lk.2]; omega)]
      rfl
    have keep : KeepT H1 H2 := ls1.kt s2
    have rdk : ∀ {v : V} {l : LI}, TB H v l → TR H2 v l := fun {v l} t => by
      obtain ⟨a, e, h⟩ := t.mono old
      exact ⟨a, e, keep.rd (Bare.rd h)⟩
    have hl0 : H dl = none := Same.no (same_upd hdx) (Same.no (same_upd (H := upd H dx (.own x)) (by rw [upd_ne (Ne.symm nx)]; exact hx)) hl)
    have hn0 : H dn = none := Same.no (same_upd hdx) (Same.no (same_upd (H := upd H dx (.own x)) (by rw [upd_ne (Ne.symm nx)]; exact hx)) hn)
    refine ⟨lp, rfl, _, SqL.of' e2, _, atI_nat at_, v, l, u, m, _, rfl, rdk tl, rdk tm, ti, tj, fun p H3 s3 e3 => q p H3 (fun b o eb => s3 _ _ ?_) e3⟩
    exact s2 _ _ (ne_of_none eb hl0) (ne_of_none eb hn0) (old _ _ eb)
theorem ok_linked_number (c_require_linked : Cal P w K mg base 8 "require_linked" spReqLinked) (c_linked_in : Cal P w K mg base 16 "linked_in" spLinkedIn) (D : DefW K mg "linked_number" s_linked_number) : CalW P w K mg base 17 "linked_number" spLinkedNum := by
  refine calw_of D (fun vs H Q E h => ?_) fun f cdv A outer s H vs Q E hr h => ?_
  · obtain ⟨v, l, u, m, k, b, rfl, _⟩ := h
    rfl
  · obtain ⟨v, l, u, m, k, b, rfl, tl, tm, ti, tj, es, hne, hk, hlen, q⟩ := h
    refine ⟨_, (pss_cons (ps_expr (pe_c c_require_linked hr (by decide) (by rfl) (pa_cons (pv 0) (pa_cons (pv 1) (pa_cons (pv 2) (pa_cons (pv 3) pa_nil))))))
        (pss_one (ps_ret (pe_c c_linked_in hr (by decide) (by rfl) (pa_cons (pv 0) (pa_cons (pv 1) (pa_cons (pv 2) (pa_cons (pv 3) pa_nil)))))))), ?_⟩
    walk_at "rd"
    refine ⟨v, l, u, m, k, b, rfl, tl.r, tm.r, ti.good hne, tj.good (by rintro rfl; exact hne (ti.nil_of (by rw [es]; rfl))), es, by have := ti.sum; omega, by omega, hlen, fun H1 s1 => ⟨v, l, u, m, k, b, rfl, tl.mono s1, tm.mono s1, ti, tj, es, hne, hk, fun p H2 s2 e2 => q p H2 (Same.trans s1 s2) e2⟩⟩
end
end K53
namespace K53
open PySem PySem.Spec PyProof.Rows L2
local macro_rules | `(tactic| walk_at "rd") => `(tactic| simp only [ap_seq, ap_next, ap_drop, ap_ret, ap_retN, ap_ifS, ap_asg, ap_par, ap_par3, ap_aug, ap_nm, ap_test, ap_tB, ap_and, ap_or, ap_not, ap_if, ap_andV, ap_notV, ap_op, ap_un, ap_c, ap_var, ap_nil, ap_cons, ap_tup, ap_lst, ap_cl, ap_cb, ap_bm, ap_bm0, ap_sl, ap_nopart, ap_part, ap_never, ap_chain, ap_fld, ap_gtup, ap_gcons, ap_gnil, ap_yes, ap_revL, ap_star,
  r_I, r_I0, r_U, r_eq, r_ne, r_isi, r_ixT, r_ixL, r_gcd, r_comb, r_sumT, r_sum, r_app, r_setI, ap_mk, ap_cw, ap_ck, ap_sSl, ap_nnew, r_nni, r_nget, r_nput, ap_mt, r_gixL, ap_augS, r_ipI, ap_tupB, ap_cnt, r_slB, cx_w, cx_P, r_sSet, r_cntT, r_setL, ap_gsub, ap_dcT, ap_dispT, ap_dnewT, ap_dget, ap_dget2, ap_dput, w_itemsT, w_keys, r_rep, r_sorted, r_slL, r_in, ap_lc2, w_enumT, ap_for, ap_lc, w_tup, w_list, w_r1, w_r2, w_enum, w_zip, cx_K, cx_Kn, wipe,
  L2.start, List.length_cons, List.length_nil, List.map_cons, List.map_nil, List.cons_append, List.nil_append, List.replicate, Nat.zero_add, Nat.reduceAdd, Nat.reduceSub, List.set_cons_zero, List.set_cons_succ,
  List.getElem?_cons_zero, List.getElem?_cons_succ, Option.some.injEq, V.int.injEq, V.bl.injEq, V.str.injEq, V.ref.injEq, exists_eq_left, exists_eq_left', List.cons.injEq, and_true, true_and, and_assoc, scal, exists_and_left, decide_eq_true_eq, bne_iff_ne, Bool.not_eq_true', decide_eq_false_iff_not, if_true, if_false, Bool.false_eq_true, Bool.true_eq_false, if_pos, ite_true, ite_false, Bool.not_true, Bool.not_false])
section
variable {P : Program} {w : World} {K : PySem.W.Frag} {mg : Str → Option Value} {base : Heap} {C : Addr}
theorem ok_single_number (T : Tx K mg) (c_require_some : Cal P w K mg base 6 "require_some" spReqSome) (c_factorial_in : Cal P w K mg base 1 "factorial_in" spFact) (c_power_in : Cal P w K mg base 1 "power_in" spPower) (c_fraction_in : Cal P w K mg base 1 "fraction_in" spFrac) (c_product_in : Cal P w K mg base 2 "product_in" spProd) (D : DefAt K mg "single_number" s_single_number) : Cal P w K mg base 7 "single_number" spSingle := by
  refine cal_of D (fun _ _ _ _ _ _ us hl => match us, hl with | [_], _ => rfl) sc_single_number (fun vs H Q E h => ?_) fun f cdv A outer s H vs Q E hr h => ?_
  · obtain ⟨v, l, rfl, tl, g, q⟩ := h
    rfl
  · obtain ⟨v, l, rfl, tl, g, q⟩ := h
    refine ⟨_, (pss_cons (ps_expr (pe_c c_require_some hr (by decide) (by rfl) (pa_cons (pv 0) pa_nil)))
        (pss_cons (ps_par (i := 1) (j := 2) rfl sc_single_number.nd rfl rfl (by decide) rfl rfl (pa_cons (pe_callB (cr_sumT rfl) (by rfl) T.sum (by decide +kernel) (pa_cons (pv 0) pa_nil)) (pa_cons (pe_callB call_len (by rfl) T.len (by decide +kernel) (pa_cons (pv 0) pa_nil)) pa_nil)) (by rfl))
        (pss_cons (ps_set (i := 3) sc_single_number.nd rfl (Or.inl rfl) (pe_op op_mulW (pe_c c_factorial_in hr (by decide) (by rfl) (pa_cons (pe_op op_sub (pe_op op_add (pv 1) (pv 2)) pe_int) pa_nil)) (pe_c c_factorial_in hr (by decide) (by rfl) (pa_cons (pv 1) pa_nil))))
        (pss_cons (ps_set (i := 4) sc_single_number.nd rfl (Or.inl rfl) (pe_c c_fraction_in hr (by decide) (by rfl) (pa_cons (pe_op op_mulW (pv 3) (pe_c c_power_in hr (by decide) (by rfl) (pa_cons (pv 1) (pa_cons (pe_callB (call_max2 rfl) (by rfl) T.max (by decide +kernel) (pa_cons (pe_op op_sub (pv 2) pe_int) (pa_cons pe_int pa_nil))) pa_nil)))) (pa_cons (pe_c c_power_in hr (by decide) (by rfl) (pa_cons (pv 1) (pa_cons (pe_callB (call_max2 rfl) (by rfl) T.max (by decide +kernel) (pa_cons (pe_op op_sub pe_int (pv 2)) (pa_cons pe_int pa_nil))) pa_nil))) pa_nil))))
        (pss_cons (ps_for PassesOwn.never rfl (pi_tup (pv 0)) (pg_name (i := 5) sc_single_number.nd rfl (Or.inl rfl)) (pss_one (ps_set (i := 4) sc_single_number.nd rfl (Or.inl rfl) (pe_c c_product_in hr (by decide) (by rfl) (pa_cons (pv 4) (pa_cons (pe_c c_fraction_in hr (by decide) (by rfl) (pa_cons (pe_c c_power_in hr (by decide) (by rfl) (pa_cons (pv 5) (pa_cons (pv 5) pa_nil))) (pa_cons (pe_c c_factorial_in hr (by decide) (by rfl) (pa_cons (pv 5) pa_nil)) pa_nil))) pa_nil))))))
        (pss_one (ps_ret (pv 4)))))))), ?_⟩
    walk_at "rd"
    refine ⟨v, l, rfl, tl, g, fun H1 s1 => ?_⟩
    obtain ⟨a, rfl, ea⟩ := tl.mono s1
    walk_at "rd"
    obtain ⟨t, et, h1, h2, h3, h4⟩ := g.toNat
    have etn : l.sum.toNat = t := by rw [et]; rfl
    have sb := single0_bd g
    have hst : singleTop l = facI (t + l.length - 2) * facI t := by unfold singleTop; rw [etn]
    have f1 := Nat.lt_of_lt_of_le (fac_lt2 (t + l.length - 2) (by omega)) (Nat.pow_le_pow_right (by decide) (show 6 * (t + l.length - 2) + 1 ≤ 280 by omega))
    have f2 := Nat.lt_of_lt_of_le (fac_lt2 t (by omega)) (Nat.pow_le_pow_right (by decide) (show 6 * t + 1 ≤ 146 by omega))
    have w1 := Nat.lt_of_lt_of_le (pow_lt (m := (t : Int)) (by omega) (l.length - 3)) (Nat.pow_le_pow_right (by decide) (show 5 * (l.length - 3) + 1 ≤ 106 by omega))
    have w2 := Nat.lt_of_lt_of_le (pow_lt (m := (t : Int)) (by omega) (3 - l.length)) (Nat.pow_le_pow_right (by decide) (show 5 * (3 - l.length) + 1 ≤ 20 by omega))
    have mx1 : (if (0 : Int) > (l.length : Int) - 3 then (0 : Int) else (l.length : Int) - 3) = ((l.length - 3 : Nat) : Int) := by split <;> omega
    have mx2 : (if (0 : Int) > 3 - (l.length : Int) then (0 : Int) else 3 - (l.length : Int)) = ((3 - l.length : Nat) : Int) := by split <;> omega
    refine ⟨l, SqT.rd ea, _, lenTR ⟨a, rfl, ea⟩, t + l.length - 2, congrArg (fun z => [V.int z]) (by rw [et]; omega), by omega, t, congrArg (fun z => [V.int z]) et, by omega, _, rfl, _, rfl, wide_mul f1 f2 (by decide) (by decide) (by decide), (t : Int), l.length - 3, by rw [mx1, et], by omega, by omega, _, rfl, wide_mul (wide_lt f1 f2) w1 (by decide) (by decide) (by decide), (t : Int), 3 - l.length, by rw [mx2, et], by omega, by omega, _, _, rfl, Int.pow_pos (by omega), Nat.lt_of_lt_of_le w2 (Nat.pow_le_pow_right (by decide) (by decide)), fun p0 hp0 => ?_⟩
    have hs0 : frac (facI (t + l.length - 2) * facI t * (t : Int) ^ (l.length - 3)) ((t : Int) ^ (3 - l.length)) = single0 l := by
      unfold single0
      rw [hst, etn]
    rw [hs0]
    have s2 : Same H1 (upd H1 p0 (fracT (single0 l))) := same_upd hp0
    have e2 : (upd H1 p0 (fracT (single0 l))) p0 = some (fracT (single0 l)) := upd_same
    generalize (upd H1 p0 (fracT (single0 l))) = H2 at s2 e2 ⊢
    have ea2 := Rd.same s2 ea
    refine ⟨⟨_, SqT.rd ea2⟩, for_it walk_tup (fun i σ H' => Same H2 H' ∧ ∃ pf b5, σ = [some (.ref a), some (.int l.sum), some (.int l.length), some (.int (facI (t + l.length - 2) * facI t)), some (.ref pf), b5] ∧ H' pf = some (fracT ((l.take i).foldl (fun f m => times f (ownShare m)) (single0 l)))) ⟨Same.refl, p0, _, rfl, e2⟩ (fun i σ H' _ pv => SqT.rd (Rd.same pv.1 ea2)) ?_ ?_⟩
    · rintro i x σ H3 H4 hi ⟨s3, pf, b5, rfl, e3⟩ ⟨rfl, hx⟩
      obtain ⟨m, hm, rfl, hmem⟩ := at_ints hx
      have hmb := g.mem hmem
      have hi' : i < l.length := by simpa using hi
      obtain ⟨k1, k2, k3⟩ := fold_single (l := l) (fun m hm => g.mem hm) i (single0 l) 540 20 (by omega) sb.2.1 sb.2.2.1 sb.2.2.2
      have hfo : (l.take (i + 1)).foldl (fun f m => times f (ownShare m)) (single0 l) = times ((l.take i).foldl (fun f m => times f (ownShare m)) (single0 l)) (ownShare m) := by
        rw [take_push hm, List.foldl_append]
        rfl
      rw [hfo]
      have hl24 := g.len
      have k1 := Nat.lt_of_lt_of_le k1 (Nat.pow_le_pow_right (by decide) (show 540 + 121 * i ≤ 4000 by omega))
      have k2 := Nat.lt_of_lt_of_le k2 (Nat.pow_le_pow_right (by decide) (show 20 + 145 * i ≤ 4000 by omega))
      generalize (l.take i).foldl (fun f m => times f (ownShare m)) (single0 l) = y at e3 k1 k2 k3 ⊢
      obtain ⟨o1, o2, o3⟩ := own_bd hmb.1 hmb.2
      have mt : m = ((m.toNat : Nat) : Int) := by omega
      walk_at "rd"
      refine ⟨m, m.toNat, congrArg (fun z => [V.int m, V.int z]) mt, by omega, by omega, m.toNat, congrArg (fun z => [V.int z]) mt, by omega, _, _, rfl, fac_pos _, Nat.lt_of_lt_of_le (fac_lt2 m.toNat (by omega)) (Nat.pow_le_pow_right (by decide) (by omega)), fun po hpo => ?_⟩
      refine ⟨pf, po, y, ownShare m, rfl, same_upd hpo _ _ e3, upd_same, k3, o3, k1, k2, Nat.lt_of_lt_of_le o1 (Nat.pow_le_pow_right (by decide) (by decide)), Nat.lt_of_lt_of_le o2 (Nat.pow_le_pow_right (by decide) (by decide)), fun pr hpr => ?_⟩
      exact ⟨Same.trans s3 (Same.upd (same_upd hpo) hpr), pr, rfl, upd_same⟩
    · rintro σ H3 ⟨s3, pf, b5, rfl, e3⟩
      walk_at "rd"
      rw [List.length_map, List.take_length] at e3
      exact q pf H3 (Same.trans s1 (Same.trans s2 s3)) e3
theorem ok_rising_single_number (T : Tx K mg) (c_require_some : Cal P w K mg base 6 "require_some" spReqSome) (c_factorial_in : Cal P w K mg base 1 "factorial_in" spFact) (c_fraction_in : Cal P w K mg base 1 "fraction_in" spFrac) (D : DefAt K mg "rising_single_number" s_rising_single_number) : Cal P w K mg base 7 "rising_single_number" spRising := by
  refine cal_of D (fun _ _ _ _ _ _ us hl => match us, hl with | [_], _ => rfl) sc_rising_single_number (fun vs H Q E h => ?_) fun f cdv A outer s H vs Q E hr h => ?_
  · obtain ⟨v, l, rfl, tl, g, q⟩ := h
    rfl
  · obtain ⟨v, l, rfl, tl, g, q⟩ := h
    refine ⟨_, (pss_cons (ps_expr (pe_c c_require_some hr (by decide) (by rfl) (pa_cons (pv 0) pa_nil)))
        (pss_cons (ps_par (i := 1) (j := 2) rfl sc_rising_single_number.nd rfl rfl (by decide) rfl rfl (pa_cons (pe_callB (cr_sumT rfl) (by rfl) T.sum (by decide +kernel) (pa_cons (pv 0) pa_nil)) (pa_cons (pe_callB call_len (by rfl) T.len (by decide +kernel) (pa_cons (pv 0) pa_nil)) pa_nil)) (by rfl))
        (pss_cons (ps_par (i := 3) (j := 4) rfl sc_rising_single_number.nd rfl rfl (by decide) rfl rfl (pa_cons (pe_c c_factorial_in hr (by decide) (by rfl) (pa_cons (pv 1) pa_nil)) (pa_cons pe_int pa_nil)) (by rfl))
        (pss_cons (ps_for PassesOwn.never rfl (pi_tup (pv 0)) (pg_name (i := 5) sc_rising_single_number.nd rfl (Or.inl rfl)) (pss_one (ps_aug (i := 3) sc_rising_single_number.nd rfl (.inl rfl) (pe_callBfun cr_comb (by rfl) T.comb (pa_cons (pe_op op_mulW pe_int (pv 5)) (pa_cons (pv 5) pa_nil))) ip_mulW)))
        (pss_cons (ps_for PassesOwn.never rfl (pi_range2 (by rfl) T.range (pa_cons pe_int (pa_cons (pe_op op_sub (pv 2) pe_int) pa_nil))) (pg_name (i := 6) sc_rising_single_number.nd rfl (Or.inl rfl)) (pss_one (ps_aug (i := 3) sc_rising_single_number.nd rfl (.inl rfl) (pe_op op_add (pe_op op_mulW pe_int (pv 1)) (pv 6)) ip_mulW)))
        (pss_cons (ps_for PassesOwn.never rfl (pi_range1 rfl T.range (pa_cons (pe_op op_sub pe_int (pv 2)) pa_nil)) (pg_name (i := 6) sc_rising_single_number.nd rfl (Or.inl rfl)) (pss_one (ps_aug (i := 4) sc_rising_single_number.nd rfl (.inl rfl) (pe_op op_sub (pe_op op_mulW pe_int (pv 1)) (pv 6)) ip_mulW)))
        (pss_one (ps_ret (pe_c c_fraction_in hr (by decide) (by rfl) (pa_cons (pv 3) (pa_cons (pv 4) pa_nil))))))))))), ?_⟩
    walk_at "rd"
    refine ⟨v, l, rfl, tl, g, fun H1 s1 => ?_⟩
    obtain ⟨a, rfl, ea⟩ := tl.mono s1
    walk_at "rd"
    obtain ⟨t, et, h1, h2, h3, h4⟩ := g.toNat
    have etn : l.sum.toNat = t := by rw [et]; rfl
    have f2 := Nat.lt_of_lt_of_le (fac_lt2 t (by omega)) (Nat.pow_le_pow_right (by decide) (show 6 * t + 1 ≤ 146 by omega))
    have hl24 := g.len
    let ca : Nat → Int := fun i => (l.take i).foldl (fun x m => x * PySem.W.mcComb (2 * m) m) (facI t)
    have cab : ∀ i, i ≤ l.length → (ca i).natAbs < 2 ^ (146 + 50 * i) := fun i => by
      induction i with
      | zero => intro _; exact f2
      | succ i ih =>
        intro hi
        have hg : l[i]? = some l[i] := List.getElem?_eq_getElem (by omega)
        have hmb := g.mem (List.getElem_mem (l := l) (n := i) (by omega))
        have e : ca (i + 1) = ca i * PySem.W.mcComb (2 * l[i]) l[i] := by
          show (l.take (i + 1)).foldl _ _ = _
          rw [take_push hg, List.foldl_append]
          rfl
        have hc := comb2_bd (l[i]).toNat (by omega)
        rw [show (((l[i]).toNat : Nat) : Int) = l[i] by omega] at hc
        rw [e]
        have := wide_lt (ih (by omega)) hc
        rw [show 146 + 50 * i + 50 = 146 + 50 * (i + 1) by omega] at this
        exact this
    let cb : Nat → Int := fun j => (List.range j).foldl (fun x (s : Nat) => x * (2 * l.sum + (1 + (s : Int)))) (ca l.length)
    have cbb : ∀ j, j ≤ 30 → (cb j).natAbs < 2 ^ (1400 + 8 * j) := fun j => by
      induction j with
      | zero => intro _; exact Nat.lt_of_lt_of_le (cab l.length (Nat.le_refl _)) (Nat.pow_le_pow_right (by decide) (by omega))
      | succ j ih =>
        intro hj
        have e : cb (j + 1) = cb j * (2 * l.sum + (1 + (j : Int))) := by
          show (List.range (j + 1)).foldl _ _ = _
          rw [List.range_succ, List.foldl_append]
          rfl
        rw [e]
        have := wide_lt (ih (by omega)) (show (2 * l.sum + (1 + (j : Int))).natAbs < 2 ^ 8 by omega)
        rw [show 1400 + 8 * j + 8 = 1400 + 8 * (j + 1) by omega] at this
        exact this
    let cd : Nat → Int := fun j => (List.range j).foldl (fun x (s : Nat) => x * (2 * l.sum - (0 + (s : Int)))) 1
    have cdb : ∀ j, j ≤ 2 → (cd j).natAbs < 2 ^ (1 + 8 * j) ∧ 0 < cd j := fun j => by
      induction j with
      | zero => intro _; exact ⟨show Int.natAbs 1 < 2 ^ 1 by decide, show (0 : Int) < 1 by decide⟩
      | succ j ih =>
        intro hj
        have e : cd (j + 1) = cd j * (2 * l.sum - (0 + (j : Int))) := by
          show (List.range (j + 1)).foldl _ _ = _
          rw [List.range_succ, List.foldl_append]
          rfl
        rw [e]
        obtain ⟨i1, i2⟩ := ih (by omega)
        have := wide_lt i1 (show (2 * l.sum - (0 + (j : Int))).natAbs < 2 ^ 8 by omega)
        rw [show 1 + 8 * j + 8 = 1 + 8 * (j + 1) by omega] at this
        exact ⟨this, Int.mul_pos i2 (by omega)⟩
    refine ⟨l, SqT.rd ea, _, lenTR ⟨a, rfl, ea⟩, t, congrArg (fun z => [V.int z]) et, by omega, ⟨_, SqT.rd ea⟩, ?_⟩
    refine for_it walk_tup (fun i σ H' => H' = H1 ∧ ∃ b5, σ = [some (.ref a), some (.int l.sum), some (.int l.length), some (.int (ca i)), some (.int 1), b5, none]) ⟨rfl, _, rfl⟩ (fun i σ H' _ pv => by rw [pv.1]; exact SqT.rd ea) ?_ ?_
    · rintro i x σ H3 H4 hi ⟨rfl, b5, rfl⟩ ⟨rfl, hx⟩
      obtain ⟨m, hm, rfl, hmem⟩ := at_ints hx
      have hmb := g.mem hmem
      have hi' : i < l.length := by simpa using hi
      have e : ca (i + 1) = ca i * PySem.W.mcComb (2 * m) m := by
        show (l.take (i + 1)).foldl _ _ = _
        rw [take_push hm, List.foldl_append]
        rfl
      have hc := comb2_bd m.toNat (by omega)
      rw [show ((m.toNat : Nat) : Int) = m by omega] at hc
      walk_at "rd"
      exact ⟨wide_mul (a := 8) (b := 8) (by decide) (by omega) (by decide) (by decide) (by decide), by omega, by omega, by omega, wide_mul (Nat.lt_of_lt_of_le (cab i (by omega)) (Nat.pow_le_pow_right (by decide) (show 146 + 50 * i ≤ 2000 by omega))) hc (by decide) (by decide) (by decide), by rw [e]; exact ⟨rfl, _, rfl⟩⟩
    · rintro σ H3 ⟨rfl, b5, rfl⟩
      rw [List.length_map]
      walk_at "rd"
      refine ⟨by decide, by decide, by omega, by omega, ?_⟩
      rw [show ((l.length : Int) - 2 - 1).toNat = l.length - 3 by omega]
      refine for_it walk_range (fun j σ H' => H' = H3 ∧ ∃ b6, σ = [some (.ref a), some (.int l.sum), some (.int l.length), some (.int (cb j)), some (.int 1), b5, b6]) ⟨rfl, _, rfl⟩ (fun _ _ _ _ _ => trivial) ?_ ?_
      · rintro j x σ H4 H5 hj ⟨rfl, b6, rfl⟩ ⟨rfl, rfl⟩
        have e : cb (j + 1) = cb j * (2 * l.sum + (1 + (j : Int))) := by
          show (List.range (j + 1)).foldl _ _ = _
          rw [List.range_succ, List.foldl_append]
          rfl
        walk_at "rd"
        exact ⟨wide_mul (a := 8) (b := 8) (by decide) (by omega) (by decide) (by decide) (by decide), wide_mul (Nat.lt_of_lt_of_le (cbb j (by omega)) (Nat.pow_le_pow_right (by decide) (show 1400 + 8 * j ≤ 2000 by omega))) (show (2 * l.sum + (1 + (j : Int))).natAbs < 2 ^ 8 by omega) (by decide) (by decide) (by decide), by rw [e]; exact ⟨rfl, _, rfl⟩⟩
      · rintro σ H4 ⟨rfl, b6, rfl⟩
        walk_at "rd"
        refine ⟨by omega, by omega, ?_⟩
        rw [show ((3 : Int) - (l.length : Int)).toNat = 3 - l.length by omega]
        refine for_it walk_range (fun j σ H' => H' = H4 ∧ ∃ b6, σ = [some (.ref a), some (.int l.sum), some (.int l.length), some (.int (cb (l.length - 3))), some (.int (cd j)), b5, b6]) ⟨rfl, _, rfl⟩ (fun _ _ _ _ _ => trivial) ?_ ?_
        · rintro j x σ H5 H6 hj ⟨rfl, b7, rfl⟩ ⟨rfl, rfl⟩
          have e : cd (j + 1) = cd j * (2 * l.sum - (0 + (j : Int))) := by
            show (List.range (j + 1)).foldl _ _ = _
            rw [List.range_succ, List.foldl_append]
            rfl
          walk_at "rd"
          exact ⟨wide_mul (a := 8) (b := 8) (by decide) (by omega) (by decide) (by decide) (by decide), wide_mul (Nat.lt_of_lt_of_le (cdb j (by omega)).1 (Nat.pow_le_pow_right (by decide) (show 1 + 8 * j ≤ 2000 by omega))) (show (2 * l.sum - (0 + (j : Int))).natAbs < 2 ^ 8 by omega) (by decide) (by decide) (by decide), by rw [e]; exact ⟨rfl, _, rfl⟩⟩
        · rintro σ H5 ⟨rfl, b7, rfl⟩
          walk_at "rd"
          have hr : frac (cb (l.length - 3)) (cd (3 - l.length)) = risingM l := by
            unfold risingM risTop risBot
            show frac ((List.range _).foldl _ ((l.take l.length).foldl _ _)) _ = _
            rw [List.take_length, etn]
          refine ⟨_, _, rfl, (cdb _ (by omega)).2, Nat.lt_of_lt_of_le (cdb _ (by omega)).1 (Nat.pow_le_pow_right (by decide) (by omega)), fun p0 hp0 => ?_⟩
          rw [hr]
          exact q p0 _ (Same.upd s1 hp0) upd_same
end
end K53
namespace K53
open PySem PySem.Spec PyProof.Rows L2
local macro_rules | `(tactic| walk_at "rd") => `(tactic| simp only [ap_seq, ap_next, ap_drop, ap_ret, ap_retN, ap_ifS, ap_asg, ap_par, ap_par3, ap_aug, ap_nm, ap_test, ap_tB, ap_and, ap_or, ap_not, ap_if, ap_andV, ap_notV, ap_op, ap_un, ap_c, ap_var, ap_nil, ap_cons, ap_tup, ap_lst, ap_cl, ap_cb, ap_bm, ap_bm0, ap_sl, ap_nopart, ap_part, ap_never, ap_chain, ap_fld, ap_gtup, ap_gcons, ap_gnil, ap_yes, ap_revL, ap_star,
  r_I, r_I0, r_U, r_eq, r_ne, r_isi, r_ixT, r_ixL, r_gcd, r_comb, r_sumT, r_sum, r_app, r_setI, ap_mk, ap_cw, ap_ck, ap_sSl, ap_nnew, r_nni, r_nget, r_nput, ap_mt, r_gixL, ap_augS, r_ipI, ap_tupB, ap_cnt, r_slB, cx_w, cx_P, r_sSet, r_cntT, r_setL, ap_gsub, ap_dcT, ap_dispT, ap_dnewT, ap_dget, ap_dget2, ap_dput, w_itemsT, w_keys, r_rep, r_sorted, r_slL, r_in, ap_lc2, w_enumT, ap_for, ap_lc, w_tup, w_list, w_r1, w_r2, w_enum, w_zip, cx_K, cx_Kn, wipe,
  L2.start, List.length_cons, List.length_nil, List.map_cons, List.map_nil, List.cons_append, List.nil_append, List.replicate, Nat.zero_add, Nat.reduceAdd, Nat.reduceSub, List.set_cons_zero, List.set_cons_succ,
  List.getElem?_cons_zero, List.getElem?_cons_succ, Option.some.injEq, V.int.injEq, V.bl.injEq, V.str.injEq, V.ref.injEq, exists_eq_left, exists_eq_left', List.cons.injEq, and_true, true_and, and_assoc, scal, exists_and_left, decide_eq_true_eq, bne_iff_ne, Bool.not_eq_true', decide_eq_false_iff_not, if_true, if_false, Bool.false_eq_true, Bool.true_eq_false, if_pos, ite_true, ite_false, Bool.not_true, Bool.not_false])
section
variable {P : Program} {w : World} {K : PySem.W.Frag} {mg : Str → Option Value} {base : Heap} {C : Addr}
theorem ok__law_dice (T : Tx K mg) (D : DefAt K mg "_law_dice" s__law_dice) : Cal P w K mg base 1 "_law_dice" (spDice K) := by
  refine cal_of D (fun _ _ _ _ _ _ us hl => match us, hl with | [_, _], _ => rfl) sc__law_dice (fun vs H Q E h => ?_) fun f cdv A outer s H vs Q E hr h => ?_
  · obtain ⟨p, ns, i, rfl, e, hi, q⟩ := h
    rfl
  · obtain ⟨p, ns, i, rfl, e, hi, q⟩ := h
    refine ⟨_, (pss_cons (ps_set (i := 2) sc__law_dice.nd rfl (Or.inl rfl) (pe_ifExp (pt_cmpR op_lt (pv 1) (pe_callB call_len (by rfl) T.len (by decide +kernel) (pa_cons (pv 0) pa_nil)) (nomark _)) (pe_callTy cr_int (by rfl) T.int (by decide +kernel) (pa_cons (pe_ix ix_list (pv 0) (pv 1) (fun _ _ => rfl)) pa_nil)) (pe_op op_add (pe_op op_mul pe_int (pv 1)) pe_int)))
        (pss_cons (ps_set (i := 3) sc__law_dice.nd rfl (Or.inl rfl) (pe_op op_mod (pe_callB (call_max2 rfl) (by rfl) T.max (by decide +kernel) (pa_cons pe_int (pa_cons (pe_op op_sub (pe_callB call_abs (by rfl) T.abs (by decide +kernel) (pa_cons (pv 2) pa_nil)) (pe_op op_pow pe_int pe_int)) pa_nil))) (pe_op op_mulW (pe_op op_pow pe_int pe_int) (pe_op op_pow pe_int pe_int))))
        (pss_one (ps_ret (pe_lst (pa_cons (pv 3) (pa_cons (pe_op op_add (pe_op op_add (pe_op op_add (pe_op op_mul (pe_op op_mod (pe_callB call_abs (by rfl) T.abs (by decide +kernel) (pa_cons (pv 2) pa_nil)) pe_int) pe_int) (pe_op op_mul pe_int (pv 1))) (pe_op op_mul pe_int (pe_callTy cr_intb (by rfl) T.int (by decide +kernel) (pa_cons (pe_cmpR op_lt (pv 2) pe_int (nomark _)) pa_nil)))) pe_int) (pa_cons pe_int pa_nil)))))))), ?_⟩
    walk_at "rd"
    have fin : ∀ x y : Int, ∀ r, H r = none → Q (.ref r) (upd H r (.lst [.int x, .int y, .int 0])) := fun x y r hr => q r _ (same_upd hr) hr ⟨x, y, 0, upd_same⟩
    have cp : ∀ {k : Int}, 0 ≤ k → k ≤ 1000000 → CPow 10 k := fun h1 h2 => ⟨h1, h2, by decide⟩
    have p57 : (10 ^ Int.toNat 57 : Int).natAbs < 2 ^ 200 := by decide
    have p60 : (10 ^ Int.toNat 60 : Int).natAbs < 2 ^ 200 := by decide
    refine ⟨ns.length, .inl ⟨_, e, by simp⟩, ?_⟩
    by_cases hlt : (i : Int) < (ns.length : Int)
    · rw [if_pos hlt]
      have hx : (ns.map V.int)[i]? = some (.int (ns.getD i 0)) := by
        rw [List.getElem?_map, List.getD_eq_getElem?_getD, List.getElem?_eq_getElem (by omega)]
        rfl
      refine ⟨_, e, _, atI_nat hx, _, rfl, ?_⟩
      exact ⟨cp (by decide) (by decide), cp (by decide) (by decide), cp (by decide) (by decide), wide_mul p57 p60 (by decide) (by decide) (by decide), by decide, by decide, .inr ⟨by decide, by decide⟩, .inl ⟨by decide, by decide⟩, .inl ⟨by decide, by decide⟩, by decide, fin _ _⟩
    · rw [if_neg hlt]
      exact ⟨.inl ⟨by decide, by decide⟩, cp (by decide) (by decide), cp (by decide) (by decide), cp (by decide) (by decide), wide_mul p57 p60 (by decide) (by decide) (by decide), by decide, by decide, .inr ⟨by decide, by decide⟩, .inl ⟨by decide, by decide⟩, .inl ⟨by decide, by decide⟩, by decide, fin _ _⟩
theorem ok__law_roll (T : Tx K mg) (D : DefAt K mg "_law_roll" s__law_roll) : Cal P w K mg base 1 "_law_roll" (spRoll) := by
  refine cal_of D (fun _ _ _ _ _ _ us hl => match us, hl with | [_, _], _ => rfl) sc__law_roll (fun vs H Q E h => ?_) fun f cdv A outer s H vs Q E hr h => ?_
  · obtain ⟨p, t, rfl, ⟨a, b, c, e⟩, h1, h2, q⟩ := h
    rfl
  · obtain ⟨p, t, rfl, ⟨a, b, c, e⟩, h1, h2, q⟩ := h
    refine ⟨_, (pss_cons (ps_if (pt_cmpR op_gt (pe_ix ix_list (pv 0) pe_int (fun _ _ => rfl)) pe_int (nomark _)) (pss_cons (ps_set (i := 2) sc__law_roll.nd rfl (Or.inl rfl) (pe_op op_mod (pe_callTy cr_int (by rfl) T.int (by decide +kernel) (pa_cons (pe_ix ix_list (pv 0) pe_int (fun _ _ => rfl)) pa_nil)) (pv 1)))
        (pss_cons (ps_asg (pe_op op_fdivW (pe_ix ix_list (pv 0) pe_int (fun _ _ => rfl)) (pv 1)) (pg_sub (pv 0) pe_int set_list))
        (pss_one (ps_ret (pv 2))))) pss_nil)
        (pss_cons (ps_asg (pe_op op_add (pe_ix ix_list (pv 0) pe_int (fun _ _ => rfl)) pe_int) (pg_sub (pv 0) pe_int set_list))
        (pss_cons (ps_set (i := 3) sc__law_roll.nd rfl (Or.inl rfl) (pe_op op_mod (pe_callTy cr_int (by rfl) T.int (by decide +kernel) (pa_cons (pe_op op_add (pe_ix ix_list (pv 0) pe_int (fun _ _ => rfl)) (pe_op op_mul pe_int (pe_ix ix_list (pv 0) pe_int (fun _ _ => rfl)))) pa_nil)) pe_int))
        (pss_cons (ps_set (i := 4) sc__law_roll.nd rfl (Or.inl rfl) (pe_op op_add (pe_op op_mul (pe_op op_mod (pe_callTy cr_int (by rfl) T.int (by decide +kernel) (pa_cons (pe_op op_add (pe_op op_mulW (pv 3) (pv 3)) (pe_op op_mul pe_int (pe_ix ix_list (pv 0) pe_int (fun _ _ => rfl)))) pa_nil)) pe_int) pe_int) (pv 3)))
        (pss_one (ps_ret (pe_op op_mod (pe_callTy cr_int (by rfl) T.int (by decide +kernel) (pa_cons (pe_op op_fdiv (pv 4) pe_int) pa_nil)) (pv 1)))))))), ?_⟩
    walk_at "rd"
    refine ⟨_, SqL.of' e, _, at0, a, rfl, ?_⟩
    by_cases ha : 0 < a
    · rw [if_pos ha]
      refine ⟨_, SqL.of' e, _, at0, a, rfl, by omega, _, SqL.of' e, _, at0, a, rfl, wide_div (b := 10) (by omega) (by omega) (by decide) (by decide), _, e, 0, rfl, ?_⟩
      have hm := Int.emod_nonneg a (show (t : Int) ≠ 0 by omega)
      have hl := Int.emod_lt_of_pos a (show (0 : Int) < t by omega)
      have := q (a % t).toNat (upd H p (.lst [.int (a / t), .int b, .int c])) (by omega) ⟨_, _, _, upd_same⟩ SameX.upd
      rw [show (((a % t).toNat : Nat) : Int) = a % t by omega] at this
      exact this
    · rw [if_neg ha]
      refine ⟨_, SqL.of' e, _, at2, c, rfl, _, e, 2, rfl, ?_⟩
      have e2 : (upd H p (.lst ([V.int a, .int b, .int c].set 2 (.int (c + 1))))) p = some (.lst [.int a, .int b, .int (c + 1)]) := upd_same
      have sx : SameX p H (upd H p (.lst ([V.int a, .int b, .int c].set 2 (.int (c + 1))))) := SameX.upd
      generalize (upd H p (.lst ([V.int a, .int b, .int c].set 2 (.int (c + 1))))) = H2 at e2 sx ⊢
      have o1 := Int.emod_nonneg (b + 99990001 * (c + 1)) (show (2305843009213693403 : Int) ≠ 0 by decide)
      have o2 := Int.emod_lt_of_pos (b + 99990001 * (c + 1)) (show (0 : Int) < 2305843009213693403 by decide)
      refine ⟨_, SqL.of' e2, _, at1, _, SqL.of' e2, _, at2, c + 1, rfl, .inl ⟨by decide, by decide⟩, b, rfl, by decide, ?_⟩
      generalize (b + 99990001 * (c + 1)) % 2305843009213693403 = one at o1 o2 ⊢
      refine ⟨wide_mul (a := 64) (b := 64) (by omega) (by omega) (by decide) (by decide) (by decide), _, SqL.of' e2, _, at2, c + 1, rfl, .inl ⟨by decide, by decide⟩, by decide, .inr ⟨by decide, by decide⟩, ⟨by decide, by decide⟩, by omega, ?_⟩
      generalize ((one * one + 83 * (c + 1)) % 2305843009213693373 * 8675327 + one) / 65539 = z
      have hm := Int.emod_nonneg z (show (t : Int) ≠ 0 by omega)
      have hl := Int.emod_lt_of_pos z (show (0 : Int) < t by omega)
      have := q (z % t).toNat H2 (by omega) ⟨_, _, _, e2⟩ sx
      rw [show (((z % t).toNat : Nat) : Int) = z % t by omega] at this
      exact this
theorem ok__law_pick (T : Tx K mg) (c_law_roll : Cal P w K mg base 1 "_law_roll" (spRoll)) (D : DefAt K mg "_law_pick" s__law_pick) : Cal P w K mg base 2 "_law_pick" (spPick) := by
  refine cal_of D (fun _ _ _ _ _ _ us hl => match us, hl with | [_, _], _ => rfl) sc__law_pick (fun vs H Q E h => ?_) fun f cdv A outer s H vs Q E hr h => ?_
  · obtain ⟨p, q1, ns, rfl, d, n1, e, hne, hl, q⟩ := h
    rfl
  · obtain ⟨p, q1, ns, rfl, d, n1, e, hne, hl, q⟩ := h
    refine ⟨_, (pss_one (ps_ret (pe_ix ix_list (pv 1) (pe_c c_law_roll hr (by decide) (by rfl) (pa_cons (pv 0) (pa_cons (pe_callB call_len (by rfl) T.len (by decide +kernel) (pa_cons (pv 1) pa_nil)) pa_nil))) (fun _ _ => rfl)))), ?_⟩
    walk_at "rd"
    have hp := List.length_pos_iff.mpr hne
    refine ⟨ns.length, .inl ⟨_, SqL.of' e, by simp⟩, p, ns.length, rfl, d, by omega, by omega, fun r H' hr d' sx => ?_⟩
    have hx : (ns.map V.int)[r]? = some (.int (ns.getD r 0)) := by
      rw [List.getElem?_map, List.getD_eq_getElem?_getD, List.getElem?_eq_getElem (by omega)]
      rfl
    refine ⟨_, r, rfl, SqL.of' (sx _ _ n1 e), _, atI_nat hx, q _ H' ?_ d' sx⟩
    rw [List.getD_eq_getElem?_getD, List.getElem?_eq_getElem (by omega)]
    exact List.getElem_mem _
theorem ok__law_gcd (T : Tx K mg) (D : DefAt K mg "_law_gcd" s__law_gcd) : Cal P w K mg base 1 "_law_gcd" (spGcd) := by
  refine cal_of D (fun _ _ _ _ _ _ us hl => match us, hl with | [_, _], _ => rfl) sc__law_gcd (fun vs H Q E h => ?_) fun f cdv A outer s H vs Q E hr h => ?_
  · obtain ⟨a, b, rfl, q⟩ := h
    rfl
  · obtain ⟨a, b, rfl, q⟩ := h
    refine ⟨_, (pss_cons (ps_par (i := 0) (j := 1) rfl sc__law_gcd.nd rfl rfl (by decide) rfl rfl (pa_cons (pe_callB call_abs (by rfl) T.abs (by decide +kernel) (pa_cons (pv 0) pa_nil)) (pa_cons (pe_callB call_abs (by rfl) T.abs (by decide +kernel) (pa_cons (pv 1) pa_nil)) pa_nil)) (by rfl))
        (pss_cons (ps_while PassesOwn.never (pt_cmpR op_gt (pv 1) pe_int (nomark _)) (pss_one (ps_par (i := 0) (j := 1) rfl sc__law_gcd.nd rfl rfl (by decide) rfl rfl (pa_cons (pv 1) (pa_cons (pe_op op_mod (pe_callTy cr_int (by rfl) T.int (by decide +kernel) (pa_cons (pv 0) pa_nil)) (pv 1)) pa_nil)) (by rfl))))
        (pss_one (ps_ret (pv 0))))), ?_⟩
    walk_at "rd"
    have ab : ∀ x : Int, (if x < 0 then -x else x) = ((x.natAbs : Nat) : Int) := fun x => by split <;> omega
    rw [ab, ab]
    refine ⟨fun μ σ H' => H' = H ∧ ∃ x y : Nat, σ = [some (.int x), some (.int y)] ∧ Nat.gcd x y = Nat.gcd a.natAbs b.natAbs ∧ y = μ, ⟨_, rfl, _, _, rfl, rfl, rfl⟩, ?_⟩
    rintro μ σ H' ⟨rfl, x, y, rfl, hg, rfl⟩
    walk_at "rd"
    by_cases hy : 0 < (y : Int)
    · rw [if_pos hy]
      refine ⟨fun σ H2 => H2 = H' ∧ σ = [some (.int y), some (.int ((x % y : Nat) : Int))], ?_, hy, ?_⟩
      · rintro σ' H2 ⟨rfl, rfl⟩
        exact ⟨x % y, Nat.mod_lt _ (by omega), rfl, y, x % y, rfl, by rw [Nat.gcd_comm y (x % y), ← Nat.gcd_rec, Nat.gcd_comm y x, hg], rfl⟩
      · exact ⟨rfl, by simp⟩
    · rw [if_neg hy]
      have : y = 0 := by omega
      subst this
      rw [Nat.gcd_zero_right] at hg
      rw [hg]
      exact q
end
end K53
namespace K53
open PySem PySem.Spec PyProof.Rows L2
local macro_rules | `(tactic| walk_at "rd") => `(tactic| simp only [ap_seq, ap_next, ap_drop, ap_ret, ap_retN, ap_ifS, ap_asg, ap_par, ap_par3, ap_aug, ap_nm, ap_test, ap_tB, ap_and, ap_or, ap_not, ap_if, ap_andV, ap_notV, ap_op, ap_un, ap_c, ap_var, ap_nil, ap_cons, ap_tup, ap_lst, ap_cl, ap_cb, ap_bm, ap_bm0, ap_sl, ap_nopart, ap_part, ap_never, ap_chain, ap_fld, ap_gtup, ap_gcons, ap_gnil, ap_yes, ap_revL, ap_star,
  r_I, r_I0, r_U, r_eq, r_ne, r_isi, r_ixT, r_ixL, r_gcd, r_comb, r_sumT, r_sum, r_app, r_setI, ap_mk, ap_cw, ap_ck, ap_sSl, ap_nnew, r_nni, r_nget, r_nput, ap_mt, r_gixL, ap_augS, r_ipI, ap_tupB, ap_cnt, r_slB, cx_w, cx_P, r_sSet, r_cntT, r_setL, ap_gsub, ap_dcT, ap_dispT, ap_dnewT, ap_dget, ap_dget2, ap_dput, w_itemsT, w_keys, r_rep, r_sorted, r_slL, r_in, ap_lc2, w_enumT, ap_for, ap_lc, w_tup, w_list, w_r1, w_r2, w_enum, w_zip, cx_K, cx_Kn, wipe,
  L2.start, List.length_cons, List.length_nil, List.map_cons, List.map_nil, List.cons_append, List.nil_append, List.replicate, Nat.zero_add, Nat.reduceAdd, Nat.reduceSub, List.set_cons_zero, List.set_cons_succ,
  List.getElem?_cons_zero, List.getElem?_cons_succ, Option.some.injEq, V.int.injEq, V.bl.injEq, V.str.injEq, V.ref.injEq, exists_eq_left, exists_eq_left', List.cons.injEq, and_true, true_and, and_assoc, scal, exists_and_left, decide_eq_true_eq, bne_iff_ne, Bool.not_eq_true', decide_eq_false_iff_not, if_true, if_false, Bool.false_eq_true, Bool.true_eq_false, if_pos, ite_true, ite_false, Bool.not_true, Bool.not_false])
section
variable {P : Program} {w : World} {K : PySem.W.Frag} {mg : Str → Option Value} {base : Heap} {C : Addr}
theorem ok__law_fraction (c_law_gcd : Cal P w K mg base 1 "_law_gcd" (spGcd)) (D : DefAt K mg "_law_fraction" s__law_fraction) : Cal P w K mg base 2 "_law_fraction" (spFrac) := by
  refine cal_of D (fun _ _ _ _ _ _ us hl => match us, hl with | [_, _], _ => rfl) sc__law_fraction (fun vs H Q E h => ?_) fun f cdv A outer s H vs Q E hr h => ?_
  · obtain ⟨a, b, rfl, h1, h2, q⟩ := h
    rfl
  · obtain ⟨a, b, rfl, h1, h2, q⟩ := h
    refine ⟨_, (pss_cons (ps_set (i := 2) sc__law_fraction.nd rfl (Or.inl rfl) (pe_c c_law_gcd hr (by decide) (by rfl) (pa_cons (pv 0) (pa_cons (pv 1) pa_nil))))
        (pss_cons (ps_if (pt_cmpR op_lt (pv 1) pe_int (nomark _)) (pss_one (ps_set (i := 2) sc__law_fraction.nd rfl (Or.inl rfl) (pe_un un_neg (pv 2)))) pss_nil)
        (pss_one (ps_ret (pe_tup (pa_cons (pe_op op_fdivW (pv 0) (pv 2)) (pa_cons (pe_op op_fdivW (pv 1) (pv 2)) pa_nil))))))), ?_⟩
    walk_at "rd"
    refine ⟨a, b, rfl, ?_⟩
    walk_at "rd"
    rw [if_neg (by omega)]
    exact ⟨gcd_ok h1 h2, gcd_ok h1 h2, by decide, q⟩
theorem ok__law_times (c_law_fraction : Cal P w K mg base 2 "_law_fraction" (spFrac)) (D : DefAt K mg "_law_times" s__law_times) : Cal P w K mg base 3 "_law_times" (spProd) := by
  refine cal_of D (fun _ _ _ _ _ _ us hl => match us, hl with | [_, _], _ => rfl) sc__law_times (fun vs H Q E h => ?_) fun f cdv A outer s H vs Q E hr h => ?_
  · obtain ⟨a, b, x, y, rfl, e1, e2, p1, p2, b1, b2, b3, b4, q⟩ := h
    rfl
  · obtain ⟨a, b, x, y, rfl, e1, e2, p1, p2, b1, b2, b3, b4, q⟩ := h
    refine ⟨_, (pss_one (ps_ret (pe_c c_law_fraction hr (by decide) (by rfl) (pa_cons (pe_op op_mulW (pe_ix ix_tup (pv 0) pe_int (fun _ _ => rfl)) (pe_ix ix_tup (pv 1) pe_int (fun _ _ => rfl))) (pa_cons (pe_op op_mulW (pe_ix ix_tup (pv 0) pe_int (fun _ _ => rfl)) (pe_ix ix_tup (pv 1) pe_int (fun _ _ => rfl))) pa_nil))))), ?_⟩
    walk_at "rd"
    refine ⟨_, SqT.of' e1, _, rfl, _, SqT.of' e2, _, rfl, _, rfl, _, rfl, wide_mul (a := 4000) (b := 4000) b1 b3 (by decide) (by decide) (by decide), _, SqT.of' e1, _, rfl, _, SqT.of' e2, _, rfl, _, rfl, _, rfl, wide_mul (a := 4000) (b := 4000) b2 b4 (by decide) (by decide) (by decide), _, _, rfl, Int.mul_pos p1 p2, ?_, q⟩
    exact wide_lt b2 b4
theorem ok__law_power (T : Tx K mg) (D : DefAt K mg "_law_power" s__law_power) : Cal P w K mg base 1 "_law_power" (spPower) := by
  refine cal_of D (fun _ _ _ _ _ _ us hl => match us, hl with | [_, _], _ => rfl) sc__law_power (fun vs H Q E h => ?_) fun f cdv A outer s H vs Q E hr h => ?_
  · obtain ⟨n, k, rfl, h1, h2, q⟩ := h
    rfl
  · obtain ⟨n, k, rfl, h1, h2, q⟩ := h
    refine ⟨_, (pss_cons (ps_set (i := 2) sc__law_power.nd rfl (Or.inl rfl) pe_int)
        (pss_cons (ps_for PassesOwn.never rfl (pi_range1 rfl T.range (pa_cons (pv 1) pa_nil)) (pg_name (i := 3) sc__law_power.nd rfl (Or.inl rfl)) (pss_one (ps_set (i := 2) sc__law_power.nd rfl (Or.inl rfl) (pe_op op_mulW (pv 2) (pv 0)))))
        (pss_one (ps_ret (pv 2))))), ?_⟩
    walk_at "rd"
    have nl : ∀ j, j ≤ 60 → (n ^ j).natAbs < 2 ^ (64 * j + 1) := fun j hj => by
      rw [Int.natAbs_pow]
      have := Nat.pow_le_pow_left (Nat.le_of_lt h2) j
      rw [← Nat.pow_mul] at this
      exact Nat.lt_of_le_of_lt this (Nat.pow_lt_pow_right (by decide) (by omega))
    refine ⟨by omega, by omega, for_it walk_range (fun i σ H' => H' = H ∧ ∃ b, σ = [some (.int n), some (.int k), some (.int (n ^ i)), b]) ⟨rfl, _, by rw [Int.pow_zero]⟩ (fun _ _ _ _ _ => trivial) ?_ ?_⟩
    · rintro i x σ H1 H2 hi ⟨rfl, b, rfl⟩ ⟨rfl, rfl⟩
      walk_at "rd"
      exact ⟨wide_mul (Nat.lt_of_lt_of_le (nl i (by omega)) (Nat.pow_le_pow_right (by decide) (show 64 * i + 1 ≤ 4000 by omega))) h2 (by decide) (by decide) (by decide), by rw [← Int.pow_succ], _, rfl⟩
    · rintro σ H1 ⟨rfl, b, rfl⟩
      walk_at "rd"
      exact q
theorem ok__law_factorial (T : Tx K mg) (D : DefAt K mg "_law_factorial" s__law_factorial) : Cal P w K mg base 1 "_law_factorial" (spFact) := by
  refine cal_of D (fun _ _ _ _ _ _ us hl => match us, hl with | [_], _ => rfl) sc__law_factorial (fun vs H Q E h => ?_) fun f cdv A outer s H vs Q E hr h => ?_
  · obtain ⟨n, rfl, h, q⟩ := h
    rfl
  · obtain ⟨n, rfl, h, q⟩ := h
    refine ⟨_, (pss_cons (ps_set (i := 1) sc__law_factorial.nd rfl (Or.inl rfl) pe_int)
        (pss_cons (ps_for PassesOwn.never rfl (pi_range2 (by rfl) T.range (pa_cons pe_int (pa_cons (pe_op op_add (pv 0) pe_int) pa_nil))) (pg_name (i := 2) sc__law_factorial.nd rfl (Or.inl rfl)) (pss_one (ps_set (i := 1) sc__law_factorial.nd rfl (Or.inl rfl) (pe_op op_mulW (pv 1) (pv 2)))))
        (pss_one (ps_ret (pv 1))))), ?_⟩
    walk_at "rd"
    refine ⟨by decide, by decide, by omega, by omega, for_it walk_range (fun i σ H' => H' = H ∧ ∃ b, σ = [some (.int n), some (.int (facI (i + 1))), b]) ⟨rfl, _, rfl⟩ (fun _ _ _ _ _ => trivial) ?_ ?_⟩
    · rintro i x σ H1 H2 hi ⟨rfl, b, rfl⟩ ⟨rfl, rfl⟩
      walk_at "rd"
      refine ⟨wide_mul (fac_lt' (by omega)) (natAbs_lt_pow (n := 10) (by omega) (by omega)) (by decide) (by decide) (by decide), ?_⟩
      rw [show facI (i + 1 + 1) = facI (i + 1) * (2 + (i : Int)) by show (((i + 1 : Nat) : Int) + 1) * _ = _; rw [Int.mul_comm]; congr 1; omega]
      exact ⟨rfl, _, rfl⟩
    · rintro σ H1 ⟨rfl, b, rfl⟩
      walk_at "rd"
      have : facI ((((n : Int) + 1) - 2).toNat + 1) = facI n := by
        cases n with
        | zero => rfl
        | succ n => congr 1; omega
      rw [this]
      exact q
theorem ok__law_binomial (T : Tx K mg) (D : DefAt K mg "_law_binomial" s__law_binomial) : Cal P w K mg base 1 "_law_binomial" (spBinom) := by
  refine cal_of D (fun _ _ _ _ _ _ us hl => match us, hl with | [_, _], _ => rfl) sc__law_binomial (fun vs H Q E h => ?_) fun f cdv A outer s H vs Q E hr h => ?_
  · obtain ⟨m, rfl, h, q⟩ := h
    rfl
  · obtain ⟨m, rfl, h, q⟩ := h
    refine ⟨_, (pss_cons (ps_set (i := 2) sc__law_binomial.nd rfl (Or.inl rfl) pe_int)
        (pss_cons (ps_for PassesOwn.never rfl (pi_range1 rfl T.range (pa_cons (pv 1) pa_nil)) (pg_name (i := 3) sc__law_binomial.nd rfl (Or.inl rfl)) (pss_one (ps_set (i := 2) sc__law_binomial.nd rfl (Or.inl rfl) (pe_op op_fdivW (pe_op op_mulW (pv 2) (pe_op op_sub (pv 0) (pv 3))) (pe_op op_add (pv 3) pe_int)))))
        (pss_one (ps_ret (pv 2))))), ?_⟩
    walk_at "rd"
    obtain ⟨b1, b2⟩ := bin_ok m h
    refine ⟨by omega, by omega, for_it walk_range (fun i σ H' => H' = H ∧ ∃ b, σ = [some (.int (2 * (m : Int))), some (.int m), some (.int (binM (2 * (m : Int)) i)), b]) ⟨rfl, _, rfl⟩ (fun _ _ _ _ _ => trivial) ?_ ?_⟩
    · rintro i x σ H1 H2 hi ⟨rfl, b, rfl⟩ ⟨rfl, rfl⟩
      walk_at "rd"
      exact ⟨wide_mul (b2 i (by omega)) (b := 8) (by omega) (by decide) (by decide) (by decide), wide_div (b := 8) (by omega) (by omega) (by decide) (by decide), rfl, _, rfl⟩
    · rintro σ H1 ⟨rfl, b, rfl⟩
      walk_at "rd"
      rw [Int.toNat_natCast, b1]
      exact q
theorem ok__law_lot_of (T : Tx K mg) (D : DefAt K mg "_law_lot_of" s__law_lot_of) : Cal P w K mg base 1 "_law_lot_of" (spLotOf) := by
  refine cal_of D (fun _ _ _ _ _ _ us hl => match us, hl with | [_], _ => rfl) sc__law_lot_of (fun vs H Q E h => ?_) fun f cdv A outer s H vs Q E hr h => ?_
  · obtain ⟨p, ns, rfl, e, hl, q⟩ := h
    rfl
  · obtain ⟨p, ns, rfl, e, hl, q⟩ := h
    refine ⟨_, (pss_one (ps_ret (pe_callTy cr_tupB (by rfl) T.tuple (by decide +kernel) (pa_cons (pe_revL (pe_callB cr_sorted (by rfl) T.sorted (by decide +kernel) (pa_cons (pv 0) pa_nil))) pa_nil)))), ?_⟩
    walk_at "rd"
    refine ⟨ns, SqL.of' e, hl, fun ms z pm sd hz => ⟨_, SqL.of' upd_same, fun y hy => ⟨y, _, rfl, SqL.of' upd_same, fun t o od ht => q _ _ (Same.upd (Same.upd (same_upd hz) hy) ht) ⟨t, rfl, o, ?_, od⟩⟩⟩⟩
    rw [upd_same, eq_isort pm sd, List.map_reverse]
theorem ok__law_lot_drawn (T : Tx K mg) (c_law_roll : Cal P w K mg base 1 "_law_roll" (spRoll)) (c_law_pick : Cal P w K mg base 2 "_law_pick" (spPick)) (c_law_lot_of : Cal P w K mg base 1 "_law_lot_of" (spLotOf)) (D : DefAt K mg "_law_lot_drawn" s__law_lot_drawn) : Cal P w K mg base 3 "_law_lot_drawn" (spDrawn) := by
  refine cal_of D (fun _ _ _ _ _ _ us hl => match us, hl with | [_, _], _ => rfl) sc__law_lot_drawn (fun vs H Q E h => ?_) fun f cdv A outer s H vs Q E hr h => ?_
  · obtain ⟨p, t, rfl, d, h1, h2, q⟩ := h
    rfl
  · obtain ⟨p, t, rfl, d, h1, h2, q⟩ := h
    refine ⟨_, (pss_cons (ps_par (i := 2) (j := 3) rfl sc__law_lot_drawn.nd rfl rfl (by decide) rfl rfl (pa_cons (pe_lst pa_nil) (pa_cons (pv 1) pa_nil)) (by rfl))
        (pss_cons (ps_while PassesOwn.never (pt_cmpR op_gt (pv 3) pe_int (nomark _)) (pss_cons (ps_set (i := 4) sc__law_lot_drawn.nd rfl (Or.inl rfl) (pe_op op_add pe_int (pe_c c_law_roll hr (by decide) (by rfl) (pa_cons (pv 0) (pa_cons (pe_callB (call_min2 rfl) (by rfl) T.min (by decide +kernel) (pa_cons (pv 3) (pa_cons (pe_c c_law_pick hr (by decide) (by rfl) (pa_cons (pv 0) (pa_cons (pe_lst (pa_cons pe_int (pa_cons pe_int (pa_cons pe_int (pa_cons pe_int pa_nil))))) pa_nil))) pa_nil))) pa_nil)))))
        (pss_cons (ps_expr (pe_bm PySem.F.plainAttrs_list PySem.F.slot_list_append PySem.F.type_list_append mt_append (pv 2) (pa_cons (pv 4) pa_nil)))
        (pss_one (ps_set (i := 3) sc__law_lot_drawn.nd rfl (Or.inl rfl) (pe_op op_sub (pv 3) (pv 4)))))))
        (pss_one (ps_ret (pe_c c_law_lot_of hr (by decide) (by rfl) (pa_cons (pv 2) pa_nil)))))), ?_⟩
    walk_at "rd"
    refine ⟨by decide, fun fa hfa => ?_⟩
    obtain ⟨d1, d2, d3, hd⟩ := d
    have nfp : fa ≠ p := fun z => by rw [z, hd] at hfa; cases hfa
    refine ⟨fun μ σ H' => ∃ (left : Nat) (ns : LI) (b4 : Option V), σ = [some (.ref p), some (.int t), some (.ref fa), some (.int (left : Nat)), b4] ∧ left = μ ∧ H' fa = some (.lst (ns.map V.int)) ∧ ns.sum + (left : Int) = (t : Int) ∧ (∀ m ∈ ns, 1 ≤ m) ∧ DiceAt H' p ∧ SameX p H H', ⟨t, t, [], _, rfl, rfl, upd_same, by simp, by simp, ⟨d1, d2, d3, same_upd hfa _ _ hd⟩, Same.x (same_upd hfa)⟩, ?_⟩
    rintro μ σ H1 ⟨left, ns, b4, rfl, hmu, e1, hs, hp, dd, sx⟩
    walk_at "rd"
    have hlen := len_le_sum hp
    by_cases hl : 0 < (left : Int)
    · rw [if_pos hl]
      refine ⟨fun σ H2 => ∃ (l2 : Nat) (ns : LI) (b4 : Option V), l2 < left ∧ σ = [some (.ref p), some (.int t), some (.ref fa), some (.int (l2 : Nat)), b4] ∧ H2 fa = some (.lst (ns.map V.int)) ∧ ns.sum + (l2 : Int) = (t : Int) ∧ (∀ m ∈ ns, 1 ≤ m) ∧ DiceAt H2 p ∧ SameX p H H2, ?_, by decide, fun z hz => ?_⟩
      · rintro σ' H2 ⟨l2, ns2, b5, hlt, rfl, g1, g2, g3, g4, g5⟩
        exact ⟨l2, by omega, l2, ns2, b5, rfl, rfl, g1, g2, g3, g4, g5⟩
      · obtain ⟨c1, c2, c3, hd1⟩ := dd
        have nzp : z ≠ p := fun y => by rw [y, hd1] at hz; cases hz
        refine ⟨p, z, [1, 2, 3, 8], rfl, ⟨c1, c2, c3, same_upd hz _ _ hd1⟩, nzp, upd_same, by simp, by decide, fun r H3 hr dd3 sx3 => ?_⟩
        have hr8 : 1 ≤ r ∧ r ≤ 8 := by
          simp at hr
          omega
        obtain ⟨tt, ht, ht1, ht2, ht3⟩ : ∃ tt : Nat, (if r < (left : Int) then r else (left : Int)) = (tt : Int) ∧ 1 ≤ tt ∧ tt ≤ left ∧ tt ≤ 8 := by
          refine ⟨(if r < (left : Int) then r else (left : Int)).toNat, ?_, ?_, ?_, ?_⟩ <;> split <;> omega
        refine ⟨_, rfl, p, tt, by rw [ht], dd3, ht1, by omega, fun r2 H4 hr2 dd4 sx4 => ?_⟩
        have sx14 : SameX p H1 H4 := SameX.trans (Same.x (same_upd hz)) (SameX.trans sx3 sx4)
        have e4 := sx14 _ _ nfp e1
        refine ⟨_, rfl, .inl ⟨rfl, _, SqL.of' e4⟩, _, e4, ?_, ?_⟩
        · rw [List.length_map]
          exact smallM (by omega)
        · obtain ⟨z1, z2, z3, hz4⟩ := dd4
          refine ⟨left - (1 + r2), ns ++ [1 + (r2 : Int)], _, by omega, by rw [show (left : Int) - (1 + (r2 : Int)) = ((left - (1 + r2) : Nat) : Int) by omega], by rw [upd_same, List.map_append]; rfl, ?_, fun m hm => ?_, ⟨z1, z2, z3, by rw [upd_ne (Ne.symm nfp)]; exact hz4⟩, fun b o nb eb => ?_⟩
          · rw [List.sum_append, List.sum_cons, List.sum_nil]
            omega
          · rcases List.mem_append.mp hm with hm | hm
            · exact hp m hm
            · obtain rfl := List.mem_singleton.mp hm
              omega
          · rw [upd_ne (ne_of_none eb hfa)]
            exact sx14 _ _ nb (sx _ _ nb eb)
    · rw [if_neg hl]
      have hl0 : left = 0 := by omega
      refine ⟨fa, ns, rfl, e1, by omega, fun v H2 s2 tb => q v _ H2 (dd.same s2) (SameX.trans sx (Same.x s2)) tb (isort_lot (by omega) hp)⟩
theorem ok__law_ln_other (T : Tx K mg) (c_law_lot_drawn : Cal P w K mg base 3 "_law_lot_drawn" (spDrawn)) (c_law_lot_of : Cal P w K mg base 1 "_law_lot_of" (spLotOf)) (D : DefAt K mg "_law_ln_other" s__law_ln_other) : Cal P w K mg base 4 "_law_ln_other" (spOther) := by
  refine cal_of D (fun _ _ _ _ _ _ us hl => match us, hl with | [_, _, _], _ => rfl) sc__law_ln_other (fun vs H Q E h => ?_) fun f cdv A outer s H vs Q E hr h => ?_
  · obtain ⟨p, v, l, t, k, rfl, d, tl, es, h1, h2, k1, k2, q⟩ := h
    rfl
  · obtain ⟨p, v, l, t, k, rfl, d, tl, es, h1, h2, k1, k2, q⟩ := h
    refine ⟨_, (pss_cons (ps_set (i := 3) sc__law_ln_other.nd rfl (Or.inl rfl) (pe_c c_law_lot_drawn hr (by decide) (by rfl) (pa_cons (pv 0) (pa_cons (pe_callB (cr_sumT rfl) (by rfl) T.sum (by decide +kernel) (pa_cons (pv 1) pa_nil)) pa_nil))))
        (pss_cons (ps_while PassesOwn.never (pt_cmpR op_gt (pe_callB call_len (by rfl) T.len (by decide +kernel) (pa_cons (pv 3) pa_nil)) (pv 2) (nomark _)) (pss_one (ps_set (i := 3) sc__law_ln_other.nd rfl (Or.inl rfl) (pe_c c_law_lot_of hr (by decide) (by rfl) (pa_cons (pe_op op_cat (pe_lst (pa_cons (pe_op op_add (pe_ix ix_tup (pv 3) (pe_un un_neg pe_int) (fun _ _ => rfl)) (pe_ix ix_tup (pv 3) (pe_un un_neg pe_int) (fun _ _ => rfl))) pa_nil)) (pe_callTy call_list_of (by rfl) T.list (by decide +kernel) (pa_cons (pe_slice sl_tupA (pv 3) po_none (po_some (pe_un un_neg pe_int))) pa_nil))) pa_nil)))))
        (pss_one (ps_ret (pv 3))))), ?_⟩
    walk_at "rd"
    obtain ⟨pa, rfl, ra⟩ := tl
    refine ⟨pa, rfl, l, SqT.rd ra, p, t, by rw [es], d, h1, h2, fun u m H1 d1 sx1 tb1 lm1 => ?_⟩
    refine ⟨fun μ σ H' => ∃ u m, σ = [some (.ref p), some (.ref pa), some (.int k), some u] ∧ m.length = μ ∧ DiceAt H' p ∧ SameX p H H' ∧ TB H' u m ∧ Lot t m, ⟨_, u, m, rfl, rfl, d1, sx1, tb1, lm1⟩, ?_⟩
    rintro μ σ H2 ⟨u, m, rfl, hmu, d2, sx2, tb2, lm2⟩
    have lr := lenTR (K := K) tb2.r
    walk_at "rd"
    refine ⟨m.length, lr, ?_⟩
    have hml := lm2.len
    by_cases hlt : (k : Int) < (m.length : Int)
    · rw [if_pos hlt]
      obtain ⟨x, y, hxy⟩ : ∃ x y, m.drop (m.length - 2) = [x, y] := by
        have : (m.drop (m.length - 2)).length = 2 := by rw [List.length_drop]; omega
        match h : m.drop (m.length - 2), this with
        | [x, y], _ => exact ⟨x, y, rfl⟩
      have hsplit : m = m.take (m.length - 2) ++ [x, y] := by rw [← hxy, List.take_append_drop]
      have gx : m[m.length - 2]? = some x := by
        have := congrArg (fun l => l[0]?) hxy
        simpa using this
      have gy : m[m.length - 1]? = some y := by
        have := congrArg (fun l => l[1]?) hxy
        simp only [List.getElem?_drop] at this
        rw [show m.length - 2 + 1 = m.length - 1 by omega] at this
        simpa using this
      have a1 : atI (m.map V.int) (-1) = some (.int y) := by
        unfold atI ixN
        rw [if_neg (by decide), if_pos (by simp; omega)]
        show ((m.map V.int)[((-1 : Int) + ((m.map V.int).length : Nat)).toNat]?) = _
        rw [List.length_map, show ((-1 : Int) + (m.length : Nat)).toNat = m.length - 1 by omega, List.getElem?_map, gy]
        rfl
      have a2 : atI (m.map V.int) (-2) = some (.int x) := by
        unfold atI ixN
        rw [if_neg (by decide), if_pos (by simp; omega)]
        show ((m.map V.int)[((-2 : Int) + ((m.map V.int).length : Nat)).toNat]?) = _
        rw [List.length_map, show ((-2 : Int) + (m.length : Nat)).toNat = m.length - 2 by omega, List.getElem?_map, gx]
        rfl
      obtain ⟨ua, rfl, ub⟩ := tb2
      refine ⟨fun σ H3 => ∃ u m2, σ = [some (.ref p), some (.ref pa), some (.int k), some u] ∧ m2.length < m.length ∧ DiceAt H3 p ∧ SameX p H H3 ∧ TB H3 u m2 ∧ Lot t m2, ?_, ua, rfl, _, Bare.sq ub, _, a1, ua, rfl, _, Bare.sq ub, _, a2, y, rfl, x, rfl, by decide, fun z hz => ?_⟩
      · rintro σ' H3 ⟨u3, m3, rfl, g1, g2, g3, g4, g5⟩
        exact ⟨m3.length, by omega, u3, rfl, m3, rfl, g2, g3, g4, g5⟩
      · have six2 : HT.sIx (m.map V.int).length (m.map V.int).length (some (-2)) = m.length - 2 := by
          unfold HT.sIx
          simp only
          rw [if_pos (by decide), List.length_map]
          omega
        have cut2 : cutV (m.map V.int) none (some (-2)) = (m.take (m.length - 2)).map V.int := by
          unfold cutV
          rw [six2]
          show ((m.map V.int).drop 0).take (m.length - 2 - 0) = _
          rw [List.drop_zero, Nat.sub_zero, ← List.map_take]
        refine ⟨ua, _, rfl, Bare.sq (Bare.same (same_upd hz) ub), fun hw => ?_, fun _ z2 hz2 => ?_⟩
        · rw [six2, List.length_map] at hw
          omega
        rw [cut2]
        refine ⟨z2, rfl, _, .inr (SqT.of' upd_same), fun z3 hz3 => ?_⟩
        have e1 := same_upd hz3 (o := .lst ((m.take (m.length - 2)).map V.int)) _ _ (same_upd hz2 (o := .tup ((m.take (m.length - 2)).map V.int)) _ _ (upd_same (H := H2) (a := z) (o := .lst [.int (y + x)])))
        have s3 : Same H2 (upd (upd (upd H2 z (.lst [.int (y + x)])) z2 (.tup ((m.take (m.length - 2)).map V.int))) z3 (.lst ((m.take (m.length - 2)).map V.int))) := Same.upd (Same.upd (same_upd hz) hz2) hz3
        have e3 : (upd (upd (upd H2 z (.lst [.int (y + x)])) z2 (.tup ((m.take (m.length - 2)).map V.int))) z3 (.lst ((m.take (m.length - 2)).map V.int))) z3 = some (.lst ((m.take (m.length - 2)).map V.int)) := upd_same
        generalize (upd (upd (upd H2 z (.lst [.int (y + x)])) z2 (.tup ((m.take (m.length - 2)).map V.int))) z3 (.lst ((m.take (m.length - 2)).map V.int))) = H3 at e1 s3 e3 ⊢
        have tl : (m.take (m.length - 2)).length = m.length - 2 := by rw [List.length_take]; omega
        refine ⟨z, z3, _, _, rfl, rfl, e1, e3, ?_, fun z4 hz4 => ?_⟩
        · rw [List.length_map, tl]
          exact Nat.le_of_lt (smallM (by simp; omega))
        have hpos : ∀ w ∈ (y + x) :: m.take (m.length - 2), 1 ≤ w := fun w hw => by
          rcases List.mem_cons.mp hw with rfl | hw
          · have := lm2.pos x (List.mem_of_getElem? gx)
            have := lm2.pos y (List.mem_of_getElem? gy)
            omega
          · exact lm2.pos w (List.mem_of_mem_take hw)
        have hsum : ((y + x) :: m.take (m.length - 2)).sum = (t : Int) := by
          rw [← lm2.sum]
          conv => rhs; rw [hsplit]
          rw [List.sum_append, List.sum_cons, List.sum_cons, List.sum_cons, List.sum_nil]
          omega
        refine ⟨z4, (y + x) :: m.take (m.length - 2), rfl, upd_same, by rw [List.length_cons, tl]; omega, fun v4 H4 s4 tb4 => ?_⟩
        have s24 : Same H2 H4 := Same.trans s3 (Same.trans (same_upd hz4) s4)
        exact ⟨v4, _, rfl, by rw [List.length_reverse, (isort_perm _).length_eq, List.length_cons, tl]; omega, d2.same s24, SameX.trans sx2 (Same.x s24), tb4, isort_lot hsum hpos⟩
    · rw [if_neg hlt]
      exact q u m H2 d2 sx2 tb2 lm2 (by omega)
end
end K53
namespace K53
open PySem PySem.Spec PyProof.Rows L2
local macro_rules | `(tactic| walk_at "rd") => `(tactic| simp only [ap_seq, ap_next, ap_drop, ap_ret, ap_retN, ap_ifS, ap_asg, ap_par, ap_par3, ap_aug, ap_nm, ap_test, ap_tB, ap_and, ap_or, ap_not, ap_if, ap_andV, ap_notV, ap_op, ap_un, ap_c, ap_var, ap_nil, ap_cons, ap_tup, ap_lst, ap_cl, ap_cb, ap_bm, ap_bm0, ap_sl, ap_nopart, ap_part, ap_never, ap_chain, ap_fld, ap_gtup, ap_gcons, ap_gnil, ap_yes, ap_revL, ap_star,
  r_I, r_I0, r_U, r_eq, r_ne, r_isi, r_ixT, r_ixL, r_gcd, r_comb, r_sumT, r_sum, r_app, r_setI, r_mulB, ap_orV, ap_mk, ap_cw, ap_ck, ap_sSl, ap_nnew, r_nni, r_nget, r_nput, ap_mt, r_gixL, ap_augS, r_ipI, ap_tupB, ap_cnt, r_slB, cx_w, cx_P, r_sSet, r_cntT, r_setL, ap_gsub, ap_dcT, ap_dispT, ap_dnewT, ap_dget, ap_dget2, ap_dput, w_itemsT, w_keys, r_rep, r_sorted, r_slL, r_in, ap_lc2, w_enumT, ap_for, ap_lc, w_tup, w_list, w_r1, w_r2, w_enum, w_zip, cx_K, cx_Kn, wipe,
  L2.start, List.length_cons, List.length_nil, List.map_cons, List.map_nil, List.cons_append, List.nil_append, List.replicate, Nat.zero_add, Nat.reduceAdd, Nat.reduceSub, List.set_cons_zero, List.set_cons_succ,
  List.getElem?_cons_zero, List.getElem?_cons_succ, Option.some.injEq, V.int.injEq, V.bl.injEq, V.str.injEq, V.ref.injEq, exists_eq_left, exists_eq_left', List.cons.injEq, and_true, true_and, and_assoc, scal, exists_and_left, decide_eq_true_eq, bne_iff_ne, Bool.not_eq_true', decide_eq_false_iff_not, if_true, if_false, Bool.false_eq_true, Bool.true_eq_false, if_pos, ite_true, ite_false, Bool.not_true, Bool.not_false])
section
variable {P : Program} {w : World} {K : PySem.W.Frag} {mg : Str → Option Value} {base : Heap} {C : Addr}
theorem ok__law_single (T : Tx K mg) (c_law_factorial : Cal P w K mg base 1 "_law_factorial" (spFact)) (c_law_power : Cal P w K mg base 1 "_law_power" (spPower)) (c_law_times : Cal P w K mg base 3 "_law_times" (spProd)) (c_law_fraction : Cal P w K mg base 2 "_law_fraction" (spFrac)) (c_law_binomial : Cal P w K mg base 1 "_law_binomial" (spBinom)) (D : DefAt K mg "_law_single" s__law_single) : Cal P w K mg base 4 "_law_single" (spLSingle) := by
  refine cal_of D (fun _ _ _ _ _ _ us hl => match us, hl with | [_, _], _ => rfl) sc__law_single (fun vs H Q E h => ?_) fun f cdv A outer s H vs Q E hr h => ?_
  · obtain ⟨v, l, b, rfl, ⟨a, rfl, ea⟩, g, q⟩ := h
    rfl
  · obtain ⟨v, l, b, rfl, ⟨a, rfl, ea⟩, g, q⟩ := h
    refine ⟨_, (pss_cons (ps_par (i := 2) (j := 3) rfl sc__law_single.nd rfl rfl (by decide) rfl rfl (pa_cons (pe_callB (cr_sumT rfl) (by rfl) T.sum (by decide +kernel) (pa_cons (pv 0) pa_nil)) (pa_cons (pe_callB call_len (by rfl) T.len (by decide +kernel) (pa_cons (pv 0) pa_nil)) pa_nil)) (by rfl))
        (pss_cons (ps_if (pt_cmpR op_eq (pv 1) pe_str (nomark _)) (pss_cons (ps_set (i := 4) sc__law_single.nd rfl (Or.inl rfl) (pe_tup (pa_cons (pe_op op_mulW (pe_c c_law_factorial hr (by decide) (by rfl) (pa_cons (pe_op op_sub (pe_op op_add (pv 2) (pv 3)) pe_int) pa_nil)) (pe_c c_law_factorial hr (by decide) (by rfl) (pa_cons (pv 2) pa_nil))) (pa_cons pe_int pa_nil))))
        (pss_cons (ps_set (i := 5) sc__law_single.nd rfl (Or.inl rfl) (pe_ifExp (pt_cmpR op_gt (pv 3) pe_int (nomark _)) (pe_tup (pa_cons (pe_c c_law_power hr (by decide) (by rfl) (pa_cons (pv 2) (pa_cons (pe_op op_sub (pv 3) pe_int) pa_nil))) (pa_cons pe_int pa_nil))) (pe_tup (pa_cons pe_int (pa_cons (pe_c c_law_power hr (by decide) (by rfl) (pa_cons (pv 2) (pa_cons (pe_op op_sub pe_int (pv 3)) pa_nil))) pa_nil)))))
        (pss_cons (ps_set (i := 4) sc__law_single.nd rfl (Or.inl rfl) (pe_c c_law_times hr (by decide) (by rfl) (pa_cons (pv 4) (pa_cons (pv 5) pa_nil))))
        (pss_cons (ps_for PassesOwn.never rfl (pi_tup (pv 0)) (pg_name (i := 6) sc__law_single.nd rfl (Or.inl rfl)) (pss_one (ps_set (i := 4) sc__law_single.nd rfl (Or.inl rfl) (pe_c c_law_times hr (by decide) (by rfl) (pa_cons (pv 4) (pa_cons (pe_c c_law_fraction hr (by decide) (by rfl) (pa_cons (pe_c c_law_power hr (by decide) (by rfl) (pa_cons (pv 6) (pa_cons (pv 6) pa_nil))) (pa_cons (pe_c c_law_factorial hr (by decide) (by rfl) (pa_cons (pv 6) pa_nil)) pa_nil))) pa_nil))))))
        (pss_one (ps_ret (pv 4))))))) pss_nil)
        (pss_cons (ps_set (i := 4) sc__law_single.nd rfl (Or.inl rfl) (pe_tup (pa_cons (pe_c c_law_factorial hr (by decide) (by rfl) (pa_cons (pv 2) pa_nil)) (pa_cons pe_int pa_nil))))
        (pss_cons (ps_for PassesOwn.never rfl (pi_tup (pv 0)) (pg_name (i := 6) sc__law_single.nd rfl (Or.inl rfl)) (pss_one (ps_set (i := 4) sc__law_single.nd rfl (Or.inl rfl) (pe_c c_law_times hr (by decide) (by rfl) (pa_cons (pv 4) (pa_cons (pe_tup (pa_cons (pe_c c_law_binomial hr (by decide) (by rfl) (pa_cons (pe_op op_mulW pe_int (pv 6)) (pa_cons (pv 6) pa_nil))) (pa_cons pe_int pa_nil))) pa_nil))))))
        (pss_cons (ps_if (pt_cmpR op_lt (pv 3) pe_int (nomark _)) (pss_one (ps_ret (pe_c c_law_times hr (by decide) (by rfl) (pa_cons (pv 4) (pa_cons (pe_tup (pa_cons pe_int (pa_cons (pe_ifExp (pt_cmpR op_eq (pv 3) pe_int (nomark _)) (pe_op op_mulW pe_int (pv 2)) (pe_op op_mulW (pe_op op_mulW pe_int (pv 2)) (pe_op op_sub (pe_op op_mulW pe_int (pv 2)) pe_int))) pa_nil))) pa_nil))))) pss_nil)
        (pss_cons (ps_for PassesOwn.never rfl (pi_range2 (by rfl) T.range (pa_cons (pe_op op_add (pe_op op_mulW pe_int (pv 2)) pe_int) (pa_cons (pe_op op_sub (pe_op op_add (pe_op op_mulW pe_int (pv 2)) (pv 3)) pe_int) pa_nil))) (pg_name (i := 7) sc__law_single.nd rfl (Or.inl rfl)) (pss_one (ps_set (i := 4) sc__law_single.nd rfl (Or.inl rfl) (pe_c c_law_times hr (by decide) (by rfl) (pa_cons (pv 4) (pa_cons (pe_tup (pa_cons (pv 7) (pa_cons pe_int pa_nil))) pa_nil))))))
        (pss_one (ps_ret (pv 4))))))))), ?_⟩
    obtain ⟨t, et, h1, h2, h3, h4⟩ := g.toNat
    have etn : l.sum.toNat = t := by rw [et]; rfl
    have hl24 := g.len
    walk_at "rd"
    refine ⟨l, SqT.rd ea, _, lenTR ⟨a, rfl, ea⟩, ?_⟩
    cases b with
    | true =>
      first | rw [if_pos word_t] | rw [if_pos (congrArg V.str word_t)]
      have sb := single0_bd g
      have hst : singleTop l = facI (t + l.length - 2) * facI t := by unfold singleTop; rw [etn]
      have f1 := Nat.lt_of_lt_of_le (fac_lt2 (t + l.length - 2) (by omega)) (Nat.pow_le_pow_right (by decide) (show 6 * (t + l.length - 2) + 1 ≤ 280 by omega))
      have f2 := Nat.lt_of_lt_of_le (fac_lt2 t (by omega)) (Nat.pow_le_pow_right (by decide) (show 6 * t + 1 ≤ 146 by omega))
      have w0 := Nat.lt_of_lt_of_le (wide_lt f1 f2) (Nat.pow_le_pow_right (by decide) (show 280 + 146 ≤ 4000 by decide))
      have w1 := Nat.lt_of_lt_of_le (pow_lt (m := (t : Int)) (by omega) (l.length - 3)) (Nat.pow_le_pow_right (by decide) (show 5 * (l.length - 3) + 1 ≤ 4000 by omega))
      have w2 := Nat.lt_of_lt_of_le (pow_lt (m := (t : Int)) (by omega) (3 - l.length)) (Nat.pow_le_pow_right (by decide) (show 5 * (3 - l.length) + 1 ≤ 4000 by omega))
      have one4 : (1 : Int).natAbs < 2 ^ 4000 := Nat.lt_of_lt_of_le (by decide : (1 : Int).natAbs < 2 ^ 1) (Nat.pow_le_pow_right (by decide) (by decide))
      refine ⟨t + l.length - 2, congrArg (fun z => [V.int z]) (by rw [et]; omega), by omega, t, congrArg (fun z => [V.int z]) et, by omega, _, rfl, _, rfl, wide_mul f1 f2 (by decide) (by decide) (by decide), by decide, fun p0 hp0 => ?_⟩
      by_cases hsz : 2 < (l.length : Int)
      · rw [if_pos hsz]
        refine ⟨(t : Int), l.length - 3, by rw [et, show (l.length : Int) - 3 = ((l.length - 3 : Nat) : Int) by omega], by omega, by omega, by decide, fun p1 hp1 => ?_⟩
        refine ⟨p0, p1, (facI (t + l.length - 2) * facI t, 1), ((t : Int) ^ (l.length - 3), 1), rfl, same_upd hp1 _ _ upd_same, upd_same, (show (0 : Int) < 1 by decide), (show (0 : Int) < 1 by decide), w0, one4, w1, one4, fun r0 hr0 => ?_⟩
        have hs0 : frac (facI (t + l.length - 2) * facI t * (t : Int) ^ (l.length - 3)) (1 * 1) = single0 l := by
          unfold single0
          rw [hst, etn, show 3 - l.length = 0 by omega]
          rfl
        simp only [hs0]
        have s2 : Same H (upd (upd (upd H p0 (.tup [.int (facI (t + l.length - 2) * facI t), .int 1])) p1 (.tup [.int ((t : Int) ^ (l.length - 3)), .int 1])) r0 (fracT (single0 l))) := Same.upd (Same.upd (same_upd hp0) hp1) hr0
        have e2 : (upd (upd (upd H p0 (.tup [.int (facI (t + l.length - 2) * facI t), .int 1])) p1 (.tup [.int ((t : Int) ^ (l.length - 3)), .int 1])) r0 (fracT (single0 l))) r0 = some (fracT (single0 l)) := upd_same
        generalize (upd (upd (upd H p0 (.tup [.int (facI (t + l.length - 2) * facI t), .int 1])) p1 (.tup [.int ((t : Int) ^ (l.length - 3)), .int 1])) r0 (fracT (single0 l))) = H2 at s2 e2 ⊢
        have ea2 := Rd.same s2 ea
        refine ⟨⟨_, SqT.rd ea2⟩, for_it walk_tup (fun i σ H' => Same H2 H' ∧ ∃ pf b5 b6 b7, σ = [some (.ref a), some (.str (wordS true)), some (.int l.sum), some (.int l.length), some (.ref pf), b5, b6, b7] ∧ H' pf = some (fracT ((l.take i).foldl (fun f m => times f (ownShare m)) (single0 l)))) ⟨Same.refl, r0, _, _, _, rfl, e2⟩ (fun i σ H' _ pv => SqT.rd (Rd.same pv.1 ea2)) ?_ ?_⟩
        · rintro i x σ H3 H4 hi ⟨s3, pf, b5, b6, b7, rfl, e3⟩ ⟨rfl, hx⟩
          obtain ⟨m, hm, rfl, hmem⟩ := at_ints hx
          have hmb := g.mem hmem
          have hi' : i < l.length := by simpa using hi
          obtain ⟨k1, k2, k3⟩ := fold_single (l := l) (fun m hm => g.mem hm) i (single0 l) 540 20 (by omega) sb.2.1 sb.2.2.1 sb.2.2.2
          have hfo : (l.take (i + 1)).foldl (fun f m => times f (ownShare m)) (single0 l) = times ((l.take i).foldl (fun f m => times f (ownShare m)) (single0 l)) (ownShare m) := by
            rw [take_push hm, List.foldl_append]
            rfl
          rw [hfo]
          have k1 := Nat.lt_of_lt_of_le k1 (Nat.pow_le_pow_right (by decide) (show 540 + 121 * i ≤ 4000 by omega))
          have k2 := Nat.lt_of_lt_of_le k2 (Nat.pow_le_pow_right (by decide) (show 20 + 145 * i ≤ 4000 by omega))
          generalize (l.take i).foldl (fun f m => times f (ownShare m)) (single0 l) = y at e3 k1 k2 k3 ⊢
          obtain ⟨o1, o2, o3⟩ := own_bd hmb.1 hmb.2
          have mt : m = ((m.toNat : Nat) : Int) := by omega
          walk_at "rd"
          refine ⟨m, m.toNat, congrArg (fun z => [V.int m, V.int z]) mt, by omega, by omega, m.toNat, congrArg (fun z => [V.int z]) mt, by omega, _, _, rfl, fac_pos _, Nat.lt_of_lt_of_le (fac_lt2 m.toNat (by omega)) (Nat.pow_le_pow_right (by decide) (by omega)), fun po hpo => ?_⟩
          refine ⟨pf, po, y, ownShare m, rfl, same_upd hpo _ _ e3, upd_same, k3, o3, k1, k2, Nat.lt_of_lt_of_le o1 (Nat.pow_le_pow_right (by decide) (by decide)), Nat.lt_of_lt_of_le o2 (Nat.pow_le_pow_right (by decide) (by decide)), fun pr hpr => ?_⟩
          exact ⟨Same.trans s3 (Same.upd (same_upd hpo) hpr), pr, rfl, upd_same⟩
        · rintro σ H3 ⟨s3, pf, b5, b6, b7, rfl, e3⟩
          walk_at "rd"
          rw [List.length_map, List.take_length] at e3
          exact q pf H3 (Same.trans s2 s3) e3
      · rw [if_neg hsz]
        refine ⟨(t : Int), 3 - l.length, by rw [et, show 3 - (l.length : Int) = ((3 - l.length : Nat) : Int) by omega], by omega, by omega, by decide, fun p1 hp1 => ?_⟩
        refine ⟨p0, p1, (facI (t + l.length - 2) * facI t, 1), (1, (t : Int) ^ (3 - l.length)), rfl, same_upd hp1 _ _ upd_same, upd_same, (show (0 : Int) < 1 by decide), (show (0 : Int) < (t : Int) ^ (3 - l.length) from Int.pow_pos (by omega)), w0, one4, one4, w2, fun r0 hr0 => ?_⟩
        have hs0 : frac (facI (t + l.length - 2) * facI t * 1) (1 * (t : Int) ^ (3 - l.length)) = single0 l := by
          unfold single0
          rw [hst, etn, show l.length - 3 = 0 by omega, Int.one_mul]
          rfl
        simp only [hs0]
        have s2 : Same H (upd (upd (upd H p0 (.tup [.int (facI (t + l.length - 2) * facI t), .int 1])) p1 (.tup [.int 1, .int ((t : Int) ^ (3 - l.length))])) r0 (fracT (single0 l))) := Same.upd (Same.upd (same_upd hp0) hp1) hr0
        have e2 : (upd (upd (upd H p0 (.tup [.int (facI (t + l.length - 2) * facI t), .int 1])) p1 (.tup [.int 1, .int ((t : Int) ^ (3 - l.length))])) r0 (fracT (single0 l))) r0 = some (fracT (single0 l)) := upd_same
        generalize (upd (upd (upd H p0 (.tup [.int (facI (t + l.length - 2) * facI t), .int 1])) p1 (.tup [.int 1, .int ((t : Int) ^ (3 - l.length))])) r0 (fracT (single0 l))) = H2 at s2 e2 ⊢
        have ea2 := Rd.same s2 ea
        refine ⟨⟨_, SqT.rd ea2⟩, for_it walk_tup (fun i σ H' => Same H2 H' ∧ ∃ pf b5 b6 b7, σ = [some (.ref a), some (.str (wordS true)), some (.int l.sum), some (.int l.length), some (.ref pf), b5, b6, b7] ∧ H' pf = some (fracT ((l.take i).foldl (fun f m => times f (ownShare m)) (single0 l)))) ⟨Same.refl, r0, _, _, _, rfl, e2⟩ (fun i σ H' _ pv => SqT.rd (Rd.same pv.1 ea2)) ?_ ?_⟩
        · rintro i x σ H3 H4 hi ⟨s3, pf, b5, b6, b7, rfl, e3⟩ ⟨rfl, hx⟩
          obtain ⟨m, hm, rfl, hmem⟩ := at_ints hx
          have hmb := g.mem hmem
          have hi' : i < l.length := by simpa using hi
          obtain ⟨k1, k2, k3⟩ := fold_single (l := l) (fun m hm => g.mem hm) i (single0 l) 540 20 (by omega) sb.2.1 sb.2.2.1 sb.2.2.2
          have hfo : (l.take (i + 1)).foldl (fun f m => times f (ownShare m)) (single0 l) = times ((l.take i).foldl (fun f m => times f (ownShare m)) (single0 l)) (ownShare m) := by
            rw [take_push hm, List.foldl_append]
            rfl
          rw [hfo]
          have k1 := Nat.lt_of_lt_of_le k1 (Nat.pow_le_pow_right (by decide) (show 540 + 121 * i ≤ 4000 by omega))
          have k2 := Nat.lt_of_lt_of_le k2 (Nat.pow_le_pow_right (by decide) (show 20 + 145 * i ≤ 4000 by omega))
          generalize (l.take i).foldl (fun f m => times f (ownShare m)) (single0 l) = y at e3 k1 k2 k3 ⊢
          obtain ⟨o1, o2, o3⟩ := own_bd hmb.1 hmb.2
          have mt : m = ((m.toNat : Nat) : Int) := by omega
          walk_at "rd"
          refine ⟨m, m.toNat, congrArg (fun z => [V.int m, V.int z]) mt, by omega, by omega, m.toNat, congrArg (fun z => [V.int z]) mt, by omega, _, _, rfl, fac_pos _, Nat.lt_of_lt_of_le (fac_lt2 m.toNat (by omega)) (Nat.pow_le_pow_right (by decide) (by omega)), fun po hpo => ?_⟩
          refine ⟨pf, po, y, ownShare m, rfl, same_upd hpo _ _ e3, upd_same, k3, o3, k1, k2, Nat.lt_of_lt_of_le o1 (Nat.pow_le_pow_right (by decide) (by decide)), Nat.lt_of_lt_of_le o2 (Nat.pow_le_pow_right (by decide) (by decide)), fun pr hpr => ?_⟩
          exact ⟨Same.trans s3 (Same.upd (same_upd hpo) hpr), pr, rfl, upd_same⟩
        · rintro σ H3 ⟨s3, pf, b5, b6, b7, rfl, e3⟩
          walk_at "rd"
          rw [List.length_map, List.take_length] at e3
          exact q pf H3 (Same.trans s2 s3) e3
    | false =>
      first | rw [if_neg word_n] | rw [if_neg (fun z => word_n (V.str.inj z))]
      have f2 := Nat.lt_of_lt_of_le (fac_lt2 t (by omega)) (Nat.pow_le_pow_right (by decide) (show 6 * t + 1 ≤ 146 by omega))
      have one4 : (1 : Int).natAbs < 2 ^ 4000 := Nat.lt_of_lt_of_le (by decide : (1 : Int).natAbs < 2 ^ 1) (Nat.pow_le_pow_right (by decide) (by decide))
      let ca : Nat → Int := fun i => (l.take i).foldl (fun x m => x * PySem.W.mcComb (2 * m) m) (facI t)
      have cas : ∀ {i : Nat} {m : Int}, l[i]? = some m → ca (i + 1) = ca i * PySem.W.mcComb (2 * m) m := fun {i m} h => by
        show (l.take (i + 1)).foldl _ _ = _
        rw [take_push h, List.foldl_append]
        rfl
      have cab : ∀ i, i ≤ l.length → (ca i).natAbs < 2 ^ (146 + 50 * i) := fun i => by
        induction i with
        | zero => intro _; exact f2
        | succ i ih =>
          intro hi
          have hg : l[i]? = some l[i] := List.getElem?_eq_getElem (by omega)
          have hmb := g.mem (List.getElem_mem (l := l) (n := i) (by omega))
          have hc := comb2_bd (l[i]).toNat (by omega)
          rw [show (((l[i]).toNat : Nat) : Int) = l[i] by omega] at hc
          rw [cas hg]
          have := wide_lt (ih (by omega)) hc
          rw [show 146 + 50 * i + 50 = 146 + 50 * (i + 1) by omega] at this
          exact this
      let cb : Nat → Int := fun j => (List.range j).foldl (fun x (s : Nat) => x * (2 * l.sum + (1 + (s : Int)))) (ca l.length)
      have cbs : ∀ j, cb (j + 1) = cb j * (2 * l.sum + (1 + (j : Int))) := fun j => by
        show (List.range (j + 1)).foldl _ _ = _
        rw [List.range_succ, List.foldl_append]
        rfl
      have cbb : ∀ j, j ≤ 30 → (cb j).natAbs < 2 ^ (1400 + 8 * j) := fun j => by
        induction j with
        | zero => intro _; exact Nat.lt_of_lt_of_le (cab l.length (Nat.le_refl _)) (Nat.pow_le_pow_right (by decide) (by omega))
        | succ j ih =>
          intro hj
          rw [cbs]
          have := wide_lt (ih (by omega)) (show (2 * l.sum + (1 + (j : Int))).natAbs < 2 ^ 8 by omega)
          rw [show 1400 + 8 * j + 8 = 1400 + 8 * (j + 1) by omega] at this
          exact this
      have hcl : ca l.length = l.foldl (fun x m => x * PySem.W.mcComb (2 * m) m) (facI l.sum.toNat) := by
        show (l.take l.length).foldl _ _ = _
        rw [List.take_length, etn]
      refine ⟨t, congrArg (fun z => [V.int z]) et, by omega, by decide, fun p0 hp0 => ?_⟩
      have s2 : Same H (upd H p0 (.tup [.int (facI t), .int 1])) := same_upd hp0
      have e2 : (upd H p0 (.tup [.int (facI t), .int 1])) p0 = some (fracT (ca 0, 1)) := upd_same
      generalize (upd H p0 (.tup [.int (facI t), .int 1])) = H2 at s2 e2 ⊢
      have ea2 := Rd.same s2 ea
      refine ⟨⟨_, SqT.rd ea2⟩, for_it walk_tup (fun i σ H' => Same H2 H' ∧ ∃ pf b5 b6 b7, σ = [some (.ref a), some (.str (wordS false)), some (.int l.sum), some (.int l.length), some (.ref pf), b5, b6, b7] ∧ H' pf = some (fracT (ca i, 1))) ⟨Same.refl, p0, _, _, _, rfl, e2⟩ (fun i σ H' _ pv => SqT.rd (Rd.same pv.1 ea2)) ?_ ?_⟩
      · rintro i x σ H3 H4 hi ⟨s3, pf, b5, b6, b7, rfl, e3⟩ ⟨rfl, hx⟩
        obtain ⟨m, hm, rfl, hmem⟩ := at_ints hx
        have hmb := g.mem hmem
        have hi' : i < l.length := by simpa using hi
        have mt : m = ((m.toNat : Nat) : Int) := by omega
        have hc := comb2_bd m.toNat (by omega)
        rw [← mt] at hc
        walk_at "rd"
        refine ⟨wide_mul (a := 8) (b := 8) (by decide) (by omega) (by decide) (by decide) (by decide), m.toNat, by rw [← mt], by omega, ?_⟩
        rw [← mt]
        refine ⟨by decide, fun p1 hp1 => ?_⟩
        refine ⟨pf, p1, (ca i, 1), (PySem.W.mcComb (2 * m) m, 1), rfl, same_upd hp1 _ _ e3, upd_same, (show (0 : Int) < 1 by decide), (show (0 : Int) < 1 by decide), Nat.lt_of_lt_of_le (cab i (by omega)) (Nat.pow_le_pow_right (by decide) (by omega)), one4, Nat.lt_of_lt_of_le hc (Nat.pow_le_pow_right (by decide) (by decide)), one4, fun r0 hr0 => ?_⟩
        exact ⟨Same.trans s3 (Same.upd (same_upd hp1) hr0), r0, rfl, by rw [upd_same, cas hm, ← times_one]; rfl⟩
      · rintro σ H3 ⟨s3, pf, b5, b6, b7, rfl, e3⟩
        rw [List.length_map] at e3
        have s03 : Same H H3 := Same.trans s2 s3
        walk_at "rd"
        by_cases hsz : (l.length : Int) < 3
        · rw [if_pos hsz]
          by_cases hs2 : (l.length : Int) = 2
          · rw [if_pos hs2]
            have hl2 : l.length = 2 := by omega
            have hr : frac (ca l.length * 1) (1 * (2 * l.sum)) = risingM l := by
              unfold risingM risTop risBot
              rw [← hcl, hl2, Int.mul_one]
              congr 1
              show 1 * (2 * l.sum) = 1 * (2 * l.sum - (0 + 0))
              omega
            refine ⟨wide_mul (a := 8) (b := 8) (by decide) (by omega) (by decide) (by decide) (by decide), by decide, fun p1 hp1 => ?_⟩
            refine ⟨pf, p1, (ca l.length, 1), (1, 2 * l.sum), rfl, same_upd hp1 _ _ e3, upd_same, (show (0 : Int) < 1 by decide), (show (0 : Int) < 2 * l.sum by omega), Nat.lt_of_lt_of_le (cab l.length (Nat.le_refl _)) (Nat.pow_le_pow_right (by decide) (by omega)), one4, one4, Nat.lt_of_lt_of_le (show (2 * l.sum).natAbs < 2 ^ 8 by omega) (Nat.pow_le_pow_right (by decide) (by decide)), fun r0 hr0 => q r0 _ (Same.upd (Same.trans s03 (same_upd hp1)) hr0) ?_⟩
            rw [upd_same]
            simp only [hr]
            rfl
          · rw [if_neg hs2]
            have hl1 : l.length = 1 := by omega
            have hr : frac (ca l.length * 1) (1 * (2 * l.sum * (2 * l.sum - 1))) = risingM l := by
              unfold risingM risTop risBot
              rw [← hcl, hl1, Int.mul_one]
              congr 1
              show 1 * (2 * l.sum * (2 * l.sum - 1)) = 1 * (2 * l.sum - (0 + 0)) * (2 * l.sum - (0 + 1))
              rw [Int.one_mul, Int.one_mul, Int.zero_add, Int.sub_zero, Int.zero_add]
            have bb := wide_lt (show (2 * l.sum).natAbs < 2 ^ 8 by omega) (show (2 * l.sum - 1).natAbs < 2 ^ 8 by omega)
            refine ⟨wide_mul (a := 8) (b := 8) (by decide) (by omega) (by decide) (by decide) (by decide), wide_mul (a := 8) (b := 8) (by decide) (by omega) (by decide) (by decide) (by decide), wide_mul (a := 8) (b := 8) (by omega) (by omega) (by decide) (by decide) (by decide), by decide, fun p1 hp1 => ?_⟩
            refine ⟨pf, p1, (ca l.length, 1), (1, 2 * l.sum * (2 * l.sum - 1)), rfl, same_upd hp1 _ _ e3, upd_same, (show (0 : Int) < 1 by decide), (show (0 : Int) < 2 * l.sum * (2 * l.sum - 1) from Int.mul_pos (by omega) (by omega)), Nat.lt_of_lt_of_le (cab l.length (Nat.le_refl _)) (Nat.pow_le_pow_right (by decide) (by omega)), one4, one4, Nat.lt_of_lt_of_le bb (Nat.pow_le_pow_right (by decide) (by decide)), fun r0 hr0 => q r0 _ (Same.upd (Same.trans s03 (same_upd hp1)) hr0) ?_⟩
            rw [upd_same]
            simp only [hr]
            rfl
        · rw [if_neg hsz]
          refine ⟨wide_mul (a := 8) (b := 8) (by decide) (by omega) (by decide) (by decide) (by decide), wide_mul (a := 8) (b := 8) (by decide) (by omega) (by decide) (by decide) (by decide), by omega, by omega, by omega, by omega, ?_⟩
          rw [show (2 * l.sum + (l.length : Int) - 2 - (2 * l.sum + 1)).toNat = l.length - 3 by omega]
          refine for_it walk_range (fun j σ H' => Same H3 H' ∧ ∃ pf b6 b7, σ = [some (.ref a), some (.str (wordS false)), some (.int l.sum), some (.int l.length), some (.ref pf), b5, b6, b7] ∧ H' pf = some (fracT (cb j, 1))) ⟨Same.refl, pf, _, _, rfl, e3⟩ (fun _ _ _ _ _ => trivial) ?_ ?_
          · rintro j x σ H4 H5 hj ⟨s4, pf2, b8, b9, rfl, e4⟩ ⟨rfl, rfl⟩
            walk_at "rd"
            refine ⟨by decide, fun p1 hp1 => ?_⟩
            refine ⟨pf2, p1, (cb j, 1), (2 * l.sum + 1 + (j : Int), 1), rfl, same_upd hp1 _ _ e4, upd_same, (show (0 : Int) < 1 by decide), (show (0 : Int) < 1 by decide), Nat.lt_of_lt_of_le (cbb j (by omega)) (Nat.pow_le_pow_right (by decide) (by omega)), one4, Nat.lt_of_lt_of_le (show (2 * l.sum + 1 + (j : Int)).natAbs < 2 ^ 8 by omega) (Nat.pow_le_pow_right (by decide) (by decide)), one4, fun r0 hr0 => ?_⟩
            exact ⟨Same.trans s4 (Same.upd (same_upd hp1) hr0), r0, rfl, by rw [upd_same, cbs, ← Int.add_assoc, ← times_one]; rfl⟩
          · rintro σ H4 ⟨s4, pf2, b8, b9, rfl, e4⟩
            walk_at "rd"
            refine q pf2 H4 (Same.trans s03 s4) ?_
            have hr : (cb (l.length - 3), (1 : Int)) = risingM l := by
              unfold risingM risTop risBot
              rw [← hcl, show 3 - l.length = 0 by omega]
              exact (frac_one _).symm
            rw [e4, hr]
            rfl
end
end K53
namespace K53
open PySem PySem.Spec PyProof.Rows L2
local macro_rules | `(tactic| walk_at "rd") => `(tactic| simp only [ap_seq, ap_next, ap_drop, ap_ret, ap_retN, ap_ifS, ap_asg, ap_par, ap_par3, ap_aug, ap_nm, ap_test, ap_tB, ap_and, ap_or, ap_not, ap_if, ap_andV, ap_notV, ap_op, ap_un, ap_c, ap_var, ap_nil, ap_cons, ap_tup, ap_lst, ap_cl, ap_cb, ap_bm, ap_bm0, ap_sl, ap_nopart, ap_part, ap_never, ap_chain, ap_fld, ap_gtup, ap_gcons, ap_gnil, ap_yes, ap_revL, ap_star,
  r_I, r_I0, r_U, r_eq, r_ne, r_isi, r_ixT, r_ixL, r_gcd, r_comb, r_sumT, r_sum, r_app, r_setI, ap_orV, ap_mk, ap_cw, ap_ck, ap_sSl, ap_nnew, r_nni, r_nget, r_nput, ap_mt, r_gixL, ap_augS, r_ipI, ap_tupB, ap_cnt, r_slB, cx_w, cx_P, r_sSet, r_cntT, r_setL, ap_gsub, ap_dcT, ap_dispT, ap_dnewT, ap_dget, ap_dget2, ap_dput, w_itemsT, w_keys, r_rep, r_sorted, r_slL, r_in, ap_lc2, w_enumT, ap_for, ap_lc, w_tup, w_list, w_r1, w_r2, w_enum, w_zip, cx_K, cx_Kn, wipe,
  L2.start, List.length_cons, List.length_nil, List.map_cons, List.map_nil, List.cons_append, List.nil_append, List.replicate, Nat.zero_add, Nat.reduceAdd, Nat.reduceSub, List.set_cons_zero, List.set_cons_succ,
  List.getElem?_cons_zero, List.getElem?_cons_succ, Option.some.injEq, V.int.injEq, V.bl.injEq, V.str.injEq, V.ref.injEq, exists_eq_left, exists_eq_left', List.cons.injEq, and_true, true_and, and_assoc, scal, exists_and_left, decide_eq_true_eq, bne_iff_ne, Bool.not_eq_true', decide_eq_false_iff_not, if_true, if_false, Bool.false_eq_true, Bool.true_eq_false, if_pos, ite_true, ite_false, Bool.not_true, Bool.not_false])
section
variable {P : Program} {w : World} {K : PySem.W.Frag} {mg : Str → Option Value} {base : Heap} {C : Addr}
theorem ok_genus_right (T : Tx K mg) (fg : FactG) (c_law_roll : Cal P w K mg base 1 "_law_roll" spRoll) (c_law_lot_drawn : Cal P w K mg base 3 "_law_lot_drawn" spDrawn) (c_law_ln_other : Cal P w K mg base 4 "_law_ln_other" spOther) (c_genus_of : Cal P w K mg base 8 "genus_of" spGenus) (c_swaps_of_genus : Cal P w K mg base 8 "swaps_of_genus" spSwaps) (c_linked_number : CalW P w K mg base 17 "linked_number" spLinkedNum) (D : DefAt K mg "_law_genus_right" s__law_genus_right) : Cal P w K mg base 18 "_law_genus_right" spRight := by
  refine cal_of D (fun _ _ _ _ _ _ us hl => match us, hl with | [_], _ => rfl) sc__law_genus_right (fun vs H Q E h => ?_) fun f cdv A outer s H vs Q E hr h => ?_
  · obtain ⟨p, rfl, _⟩ := h
    rfl
  · obtain ⟨p, rfl, d, q⟩ := h
    refine ⟨_, (pss_cons (ps_set (i := 1) sc__law_genus_right.nd rfl (Or.inl rfl) (pe_op op_add pe_int (pe_c c_law_roll hr (by decide) (by rfl) (pa_cons (pv 0) (pa_cons pe_int pa_nil)))))
        (pss_cons (ps_set (i := 2) sc__law_genus_right.nd rfl (Or.inl rfl) (pe_c c_law_ln_other hr (by decide) (by rfl) (pa_cons (pv 0) (pa_cons (pe_c c_law_lot_drawn hr (by decide) (by rfl) (pa_cons (pv 0) (pa_cons (pv 1) pa_nil))) (pa_cons pe_int pa_nil)))))
        (pss_cons (ps_par3 (i := 3) (j := 4) (l := 5) rfl sc__law_genus_right.nd rfl rfl rfl (by decide) (by decide) (by decide) rfl rfl rfl (pa_cons (pe_c c_law_ln_other hr (by decide) (by rfl) (pa_cons (pv 0) (pa_cons (pv 2) (pa_cons pe_int pa_nil)))) (pa_cons (pe_c c_law_roll hr (by decide) (by rfl) (pa_cons (pv 0) (pa_cons pe_int pa_nil))) (pa_cons (pe_c c_law_roll hr (by decide) (by rfl) (pa_cons (pv 0) (pa_cons pe_int pa_nil))) pa_nil))) (by rfl))
        (pss_cons (ps_set (i := 6) sc__law_genus_right.nd rfl (Or.inl rfl) (pe_op op_sub (pe_op op_sub (pe_op op_add (pv 4) pe_int) (pe_callB call_len (by rfl) T.len (by decide +kernel) (pa_cons (pv 2) pa_nil))) (pe_callB call_len (by rfl) T.len (by decide +kernel) (pa_cons (pv 3) pa_nil))))
        (pss_cons (ps_set (i := 7) sc__law_genus_right.nd rfl (Or.inl rfl) (pe_ifExp (pt_cmpR op_eq (pe_op op_mod (pv 6) pe_int) pe_int (nomark _)) (pe_op op_fdiv (pv 6) pe_int) pe_non))
        (pss_cons (ps_if (pt_cmpR op_ne (pe_c c_genus_of hr (by decide) (by rfl) (pa_cons (pv 2) (pa_cons (pv 3) (pa_cons (pv 4) pa_nil)))) (pv 7) (nomark _)) (pss_one (ps_ret pe_bl)) pss_nil)
        (pss_cons (ps_if (pt_cmpR op_ne (pe_c c_swaps_of_genus hr (by decide) (by rfl) (pa_cons (pv 2) (pa_cons (pv 3) (pa_cons (pv 5) pa_nil)))) (pe_op op_add (pe_op op_add (pe_op op_sub (pe_op op_mulW pe_int (pv 5)) pe_int) (pe_callB call_len (by rfl) T.len (by decide +kernel) (pa_cons (pv 2) pa_nil))) (pe_callB call_len (by rfl) T.len (by decide +kernel) (pa_cons (pv 3) pa_nil))) (nomark _)) (pss_one (ps_ret pe_bl)) pss_nil)
        (pss_cons (ps_set (i := 8) sc__law_genus_right.nd rfl (Or.inl rfl) (pe_cw c_linked_number hr (by decide) (by rfl) (pa_cons (pv 2) (pa_cons (pv 3) (pa_cons (pv 4) pa_nil)))))
        (pss_cons (ps_if (PW.pt (pw_or (pt_cmpR op_isN (pv 7) pe_non (nomark _)) (pw_or1 (pt_cmpR op_lt (pv 7) pe_int (nomark _))))) (pss_one (ps_ret (pe_and (pe_cmpR (op_eqD hr.units) (pv 8) (pe_tup (pa_cons pe_int (pa_cons pe_int pa_nil))) (nomark _)) (pe_one (pe_cmpR (op_eqD hr.units) (pe_ck c_linked_number hr (by decide) (by rfl) (pa_cons (pv 2) (pa_cons (pv 3) (pa_cons (pv 4) pa_nil))) (pk_cons pe_str pk_nil)) (pe_tup (pa_cons pe_int (pa_cons pe_int pa_nil))) (nomark _)))))) pss_nil)
        (pss_one (ps_ret (pe_or (pe_cmpR op_gt (pe_ix ix_tup (pv 8) pe_int (fun _ _ => rfl)) pe_int (nomark _)) (pe_one (pe_cmpR op_eq (pv 1) pe_int (nomark _))))))))))))))), ?_⟩
    walk_at "rd"
    refine ⟨p, 7, rfl, d, by decide, by decide, fun r0 H1 hr0 d1 sx1 => ⟨r0, rfl, p, 1 + r0, congrArg (fun z => [V.ref p, V.int z]) (by omega), d1, by omega, by omega, fun v0 l0 H2 d2 sx2 tb0 lt0 => ⟨p, v0, l0, 1 + r0, 5, rfl, d2, tb0.r, lt0.sum, by omega, by omega, by decide, by decide, fun v l H3 d3 sx3 tb lt hl5 => ⟨p, v, l, 1 + r0, 5, rfl, d3, tb.r, lt.sum, by omega, by omega, by decide, by decide, fun u m H4 d4 sx4 tbm ltm hm5 => ⟨p, 9, rfl, d4, by decide, by decide, fun k H5 hk d5 sx5 => ⟨p, 21, rfl, d5, by decide, by decide, fun gg H6 hg d6 sx6 => ?_⟩⟩⟩⟩⟩⟩
    have b1 : TB H6 v l := ((tb.monoX d3 sx4).monoX d4 sx5).monoX d5 sx6
    have b2 : TB H6 u m := (tbm.monoX d4 sx5).monoX d5 sx6
    have sx : SameX p H H6 := SameX.trans sx1 (SameX.trans sx2 (SameX.trans sx3 (SameX.trans sx4 (SameX.trans sx5 sx6))))
    have ht17 : 1 ≤ 1 + r0 ∧ 1 + r0 ≤ 7 := by omega
    have htc : (1 : Int) + (r0 : Int) = ((1 + r0 : Nat) : Int) := by omega
    rw [htc]
    generalize 1 + r0 = t at lt ltm lt0 ht17 ⊢
    have ht : 1 ≤ t ∧ t ≤ 7 := ht17
    have es : l.sum = m.sum := by rw [lt.sum, ltm.sum]
    have tl : Tiny l := ⟨t, ht.2, lt⟩
    have tm : Tiny m := ⟨t, ht.2, ltm⟩
    have nl : l ≠ [] := by
      rintro rfl
      have := lt.sum
      simp at this
      omega
    have nm : m ≠ [] := by
      rintro rfl
      have := ltm.sum
      simp at this
      omega
    have gl := tl.good nl
    have gm := tm.good nm
    have fg0 := fg t l m ht.1 ht.2 lt ltm hl5 hm5 k (by omega)
    refine ⟨k, rfl, l.length, lenTR b1.r, m.length, lenTR b2.r, by decide, ?_⟩
    by_cases hev : ((k : Int) + 2 - (l.length : Int) - (m.length : Int)) % 2 = 0
    · rw [if_pos hev]
      refine ⟨⟨by decide, by decide⟩, v, l, u, m, k, rfl, b1.r, b2.r, gl, gm, es, by omega, fun H7 s7 => ?_⟩
      have hgv : genusV k l m = .int (((k : Int) + 2 - (l.length : Int) - (m.length : Int)) / 2) := by
        unfold genusV
        rw [if_pos hev]
      rw [hgv]
      refine ⟨rfl, ?_⟩
      rw [if_neg (by simp)]
      refine ⟨v, l, u, m, gg, rfl, (b1.mono s7).r, (b2.mono s7).r, gl, gm, es, by omega, fun H8 s8 => ⟨gg, rfl, wide_mul (a := 8) (b := 8) (by decide) (by omega) (by decide) (by decide) (by decide), _, lenTR ((b1.mono s7).mono s8).r, _, lenTR ((b2.mono s7).mono s8).r, rfl, ?_⟩⟩
      rw [if_neg (by simp)]
      refine ⟨v, l, u, m, k, true, rfl, (b1.mono s7).mono s8, (b2.mono s7).mono s8, tl, tm, es, nl, by omega, by omega, fun pt H9 s9 e9 => ?_⟩
      have s69 : Same H6 H9 := Same.trans s7 (Same.trans s8 s9)
      dsimp only
      rw [if_neg (by simp)]
      by_cases hneg : ((k : Int) + 2 - (l.length : Int) - (m.length : Int)) / 2 < 0
      · rw [if_pos hneg]
        have hne : ¬ (((k : Int) + 2 - l.length - m.length) % 2 = 0 ∧ 0 ≤ (k : Int) + 2 - l.length - m.length) := by omega
        · have ez := (fg0.2 hne).1
          rw [ez] at e9
          refine ⟨by decide, fun z hz => eqTI (l := [0, 1]) (m := [0, 1]) ⟨pt, rfl, same_upd hz _ _ e9⟩ ⟨z, rfl, upd_same⟩ ⟨_, rfl, ?_⟩⟩
          rw [if_pos (by simp)]
          have s10 : Same H9 (upd H9 z (.tup [.int 0, .int 1])) := same_upd hz
          refine ⟨v, l, u, m, k, false, rfl, ((b1.mono s69).mono s10), ((b2.mono s69).mono s10), tl, tm, es, nl, by omega, by omega, fun p2 H11 s11 e11 => ⟨by decide, fun z2 hz2 => ?_⟩⟩
          rw [(fg0.2 hne).2] at e11
          refine eqTI (l := [0, 1]) (m := [0, 1]) ⟨p2, rfl, same_upd hz2 _ _ e11⟩ ⟨z2, rfl, upd_same⟩ ?_
          rw [decide_eq_true rfl]
          have s611 := Same.trans s69 (Same.trans s10 (Same.upd (o := .tup [.int 0, .int 1]) s11 hz2))
          exact q _ (d6.same s611) (SameX.trans sx (Same.x s611))
      · rw [if_neg hneg]
        have hpos := fg0.1 ⟨hev, by omega⟩
        refine ⟨pt, rfl, _, SqT.of' e9, _, at0, _, rfl, ?_⟩
        have fin := q H9 (d6.same s69) (SameX.trans sx (Same.x s69))
        by_cases hp : 0 < (linkNum true k l m).1
        · rw [if_pos hp]
          exact fin
        · rw [if_neg hp]
          have h1 : t = 1 := hpos.resolve_left hp
          rw [decide_eq_true (by rw [h1]; rfl)]
          exact fin
    · rw [if_neg hev]
      have hne : ¬ (((k : Int) + 2 - l.length - m.length) % 2 = 0 ∧ 0 ≤ (k : Int) + 2 - l.length - m.length) := fun z => hev z.1
      refine ⟨v, l, u, m, k, rfl, b1.r, b2.r, gl, gm, es, by omega, fun H7 s7 => ?_⟩
      have hgv : genusV k l m = .non := by
        unfold genusV
        rw [if_neg hev]
      rw [hgv]
      refine ⟨rfl, ?_⟩
      rw [if_neg (by simp)]
      refine ⟨v, l, u, m, gg, rfl, (b1.mono s7).r, (b2.mono s7).r, gl, gm, es, by omega, fun H8 s8 => ⟨gg, rfl, wide_mul (a := 8) (b := 8) (by decide) (by omega) (by decide) (by decide) (by decide), _, lenTR ((b1.mono s7).mono s8).r, _, lenTR ((b2.mono s7).mono s8).r, rfl, ?_⟩⟩
      rw [if_neg (by simp)]
      refine ⟨v, l, u, m, k, true, rfl, (b1.mono s7).mono s8, (b2.mono s7).mono s8, tl, tm, es, nl, by omega, by omega, fun pt H9 s9 e9 => ?_⟩
      have s69 : Same H6 H9 := Same.trans s7 (Same.trans s8 s9)
      dsimp only
      have ez := (fg0.2 hne).1
      rw [ez] at e9
      refine ⟨by decide, fun z hz => eqTI (l := [0, 1]) (m := [0, 1]) ⟨pt, rfl, same_upd hz _ _ e9⟩ ⟨z, rfl, upd_same⟩ ⟨_, rfl, ?_⟩⟩
      rw [if_pos (by simp)]
      have s10 : Same H9 (upd H9 z (.tup [.int 0, .int 1])) := same_upd hz
      refine ⟨v, l, u, m, k, false, rfl, ((b1.mono s69).mono s10), ((b2.mono s69).mono s10), tl, tm, es, nl, by omega, by omega, fun p2 H11 s11 e11 => ⟨by decide, fun z2 hz2 => ?_⟩⟩
      rw [(fg0.2 hne).2] at e11
      refine eqTI (l := [0, 1]) (m := [0, 1]) ⟨p2, rfl, same_upd hz2 _ _ e11⟩ ⟨z2, rfl, upd_same⟩ ?_
      rw [decide_eq_true rfl]
      have s611 := Same.trans s69 (Same.trans s10 (Same.upd (o := .tup [.int 0, .int 1]) s11 hz2))
      exact q _ (d6.same s611) (SameX.trans sx (Same.x s611))
end
end K53
namespace K53
open PySem PySem.Spec PyProof.Rows L2
local macro_rules | `(tactic| walk_at "rd") => `(tactic| simp only [ap_seq, ap_next, ap_drop, ap_ret, ap_retN, ap_ifS, ap_asg, ap_par, ap_par3, ap_aug, ap_nm, ap_test, ap_tB, ap_and, ap_or, ap_not, ap_if, ap_andV, ap_notV, ap_op, ap_un, ap_c, ap_var, ap_nil, ap_cons, ap_tup, ap_lst, ap_cl, ap_cb, ap_bm, ap_bm0, ap_sl, ap_nopart, ap_part, ap_never, ap_chain, ap_fld, ap_gtup, ap_gcons, ap_gnil, ap_yes, ap_revL, ap_star,
  r_I, r_I0, r_U, r_eq, r_ne, r_isi, r_ixT, r_ixL, r_gcd, r_comb, r_sumT, r_sum, r_app, r_setI, r_mulB, ap_orV, ap_mk, ap_cw, ap_ck, ap_sSl, ap_nnew, r_nni, r_nget, r_nput, ap_mt, r_gixL, ap_augS, r_ipI, ap_tupB, ap_cnt, r_slB, cx_w, cx_P, r_sSet, r_cntT, r_setL, ap_gsub, ap_dcT, ap_dispT, ap_dnewT, ap_dget, ap_dget2, ap_dput, w_itemsT, w_keys, r_rep, r_sorted, r_slL, r_in, ap_lc2, w_enumT, ap_for, ap_lc, w_tup, w_list, w_r1, w_r2, w_enum, w_zip, cx_K, cx_Kn, wipe,
  L2.start, List.length_cons, List.length_nil, List.map_cons, List.map_nil, List.cons_append, List.nil_append, List.replicate, Nat.zero_add, Nat.reduceAdd, Nat.reduceSub, List.set_cons_zero, List.set_cons_succ,
  List.getElem?_cons_zero, List.getElem?_cons_succ, Option.some.injEq, V.int.injEq, V.bl.injEq, V.str.injEq, V.ref.injEq, exists_eq_left, exists_eq_left', List.cons.injEq, and_true, true_and, and_assoc, scal, exists_and_left, decide_eq_true_eq, bne_iff_ne, Bool.not_eq_true', decide_eq_false_iff_not, if_true, if_false, Bool.false_eq_true, Bool.true_eq_false, if_pos, ite_true, ite_false, Bool.not_true, Bool.not_false])
theorem ones_sum : ∀ t : Nat, (List.replicate t (1 : Int)).sum = (t : Int)
  | 0 => rfl
  | t + 1 => by rw [List.replicate_succ, List.sum_cons, ones_sum t]; omega
theorem ones_lot (t : Nat) : Lot t (List.replicate t 1) :=
  ⟨ones_sum t, fun m hm => by rw [(List.mem_replicate.mp hm).2]; decide, List.pairwise_replicate.mpr (.inr (Int.le_refl 1))⟩
theorem ones_tiny {t : Nat} (h : t ≤ 7) : Tiny (List.replicate t 1) := ⟨t, h, ones_lot t⟩
section
variable {P : Program} {w : World} {K : PySem.W.Frag} {mg : Str → Option Value} {base : Heap} {C : Addr}
theorem ok_ones_right (T : Tx K mg) (fo : FactO) (c_law_roll : Cal P w K mg base 1 "_law_roll" spRoll) (c_law_lot_drawn : Cal P w K mg base 3 "_law_lot_drawn" spDrawn) (c_law_ln_other : Cal P w K mg base 4 "_law_ln_other" spOther) (c_law_single : Cal P w K mg base 4 "_law_single" spLSingle) (c_single_number : Cal P w K mg base 7 "single_number" spSingle) (c_rising_single_number : Cal P w K mg base 7 "rising_single_number" spRising) (c_linked_number : CalW P w K mg base 17 "linked_number" spLinkedNum) (D : DefAt K mg "_law_ones_right" s__law_ones_right) : Cal P w K mg base 18 "_law_ones_right" spRight := by
  refine cal_of D (fun _ _ _ _ _ _ us hl => match us, hl with | [_], _ => rfl) sc__law_ones_right (fun vs H Q E h => ?_) fun f cdv A outer s H vs Q E hr h => ?_
  · obtain ⟨p, rfl, _⟩ := h
    rfl
  · obtain ⟨p, rfl, d, q⟩ := h
    refine ⟨_, (pss_cons (ps_set (i := 1) sc__law_ones_right.nd rfl (Or.inl rfl) (pe_c c_law_lot_drawn hr (by decide) (by rfl) (pa_cons (pv 0) (pa_cons (pe_op op_add pe_int (pe_c c_law_roll hr (by decide) (by rfl) (pa_cons (pv 0) (pa_cons pe_int pa_nil)))) pa_nil))))
        (pss_cons (ps_if (PW.pt (pw_or (pt_cmpR (op_neD hr.units) (pe_c c_single_number hr (by decide) (by rfl) (pa_cons (pv 1) pa_nil)) (pe_c c_law_single hr (by decide) (by rfl) (pa_cons (pv 1) (pa_cons pe_str pa_nil))) (nomark _)) (pw_or1 (pt_cmpR (op_neD hr.units) (pe_c c_rising_single_number hr (by decide) (by rfl) (pa_cons (pv 1) pa_nil)) (pe_c c_law_single hr (by decide) (by rfl) (pa_cons (pv 1) (pa_cons pe_str pa_nil))) (nomark _))))) (pss_one (ps_ret pe_bl)) pss_nil)
        (pss_cons (ps_set (i := 2) sc__law_ones_right.nd rfl (Or.inl rfl) (pe_op op_add pe_int (pe_c c_law_roll hr (by decide) (by rfl) (pa_cons (pv 0) (pa_cons pe_int pa_nil)))))
        (pss_cons (ps_set (i := 1) sc__law_ones_right.nd rfl (Or.inl rfl) (pe_c c_law_ln_other hr (by decide) (by rfl) (pa_cons (pv 0) (pa_cons (pe_tup (pa_cons (pv 2) pa_nil)) (pa_cons (pe_op op_sub pe_int (pv 2)) pa_nil)))))
        (pss_cons (ps_par (i := 3) (j := 4) rfl sc__law_ones_right.nd rfl rfl (by decide) rfl rfl (pa_cons (pe_op op_mulB (pe_tupB (pa_cons pe_int pa_nil)) (pv 2)) (pa_cons (pe_op op_sub (pe_op op_add (pv 2) (pe_callB call_len (by rfl) T.len (by decide +kernel) (pa_cons (pv 1) pa_nil))) pe_int) pa_nil)) (by rfl))
        (pss_cons (ps_if (pt_cmpR (op_neD hr.units) (pe_cw c_linked_number hr (by decide) (by rfl) (pa_cons (pv 1) (pa_cons (pv 3) (pa_cons (pv 4) pa_nil)))) (pe_c c_single_number hr (by decide) (by rfl) (pa_cons (pv 1) pa_nil)) (nomark _)) (pss_one (ps_ret pe_bl)) pss_nil)
        (pss_one (ps_ret (pe_cmpR (op_eqD hr.units) (pe_ck c_linked_number hr (by decide) (by rfl) (pa_cons (pv 1) (pa_cons (pv 3) (pa_cons (pv 4) pa_nil))) (pk_cons pe_str pk_nil)) (pe_c c_rising_single_number hr (by decide) (by rfl) (pa_cons (pv 1) pa_nil)) (nomark _)))))))))), ?_⟩
    walk_at "rd"
    refine ⟨p, 24, rfl, d, by decide, by decide, fun r0 H1 hr0 d1 sx1 => ⟨r0, rfl, p, 1 + r0, congrArg (fun z => [V.ref p, V.int z]) (by omega), d1, by omega, by omega, fun v l H2 d2 sx2 tb lt => ?_⟩⟩
    have gl : Good l := ⟨1 + r0, by omega, by omega, lt⟩
    have sx02 : SameX p H H2 := SameX.trans sx1 sx2
    have frTI : ∀ {Hx : Hp} {a : Addr} {x : Int × Int}, Hx a = some (fracT x) → TI Hx (.ref a) [x.1, x.2] := fun h => ⟨_, rfl, h⟩
    refine ⟨v, l, rfl, tb.r, gl, fun a1 H3 s3 e3 => ⟨v, l, true, rfl, (tb.mono s3).r, gl, fun a2 H4 s4 e4 => neTI (frTI (s4 _ _ e3)) (frTI e4) ⟨_, rfl, ?_⟩⟩⟩
    rw [if_neg (by simp)]
    have tb4 := (tb.mono s3).mono s4
    refine ⟨v, l, rfl, tb4.r, gl, fun a3 H5 s5 e5 => ⟨v, l, false, rfl, (tb4.mono s5).r, gl, fun a4 H6 s6 e6 => neTI (frTI (s6 _ _ e5)) (frTI e6) ⟨_, rfl, ?_⟩⟩⟩
    rw [if_neg (by simp)]
    have s26 : Same H2 H6 := Same.trans s3 (Same.trans s4 (Same.trans s5 s6))
    have d6 := d2.same s26
    have sx6 : SameX p H H6 := SameX.trans sx02 (Same.x s26)
    refine ⟨p, 6, rfl, d6, by decide, by decide, fun r H7 hr7 d7 sx7 => ⟨r, rfl, by decide, fun z hz => ?_⟩⟩
    have hk : (10 : Int) - (1 + (r : Int)) = ((10 - (1 + r) : Nat) : Int) := by omega
    rw [hk]
    refine ⟨p, .ref z, [1 + (r : Int)], 1 + r, 10 - (1 + r), rfl, d7.same (same_upd hz), TI.r ⟨z, rfl, upd_same⟩, by simp, by omega, by omega, by omega, by omega, fun u m H8 d8 sx8 tbm ltm hm => ⟨by decide, fun o1 ob hb ho1 => ?_⟩⟩
    have tm : Tiny m := ⟨1 + r, by omega, ltm⟩
    have nm : m ≠ [] := by
      rintro rfl
      have := ltm.sum
      simp at this
      omega
    have gm := tm.good nm
    have es : m.sum = (List.replicate (1 + r) (1 : Int)).sum := by rw [ltm.sum, ones_sum]
    have hml := List.length_pos_iff.mpr nm
    have hmany : (1 : Int) + (r : Int) + (m.length : Int) - 2 = ((1 + r + m.length - 2 : Nat) : Int) := by omega
    have fo1 := fo (1 + r) m (by omega) (by omega) ltm (by omega)
    have s1 : Same H8 (upd H8 o1 (.frz ob (.tup [.int 1]))) := same_upd ho1
    have b1 : Bare (upd H8 o1 (.frz ob (.tup [.int 1]))) o1 [.int 1] := ⟨ob, upd_same, hb⟩
    generalize (upd H8 o1 (.frz ob (.tup [.int 1]))) = H8a at s1 b1 ⊢
    refine ⟨o1, rfl, _, Bare.sq b1, by simp, by omega, by omega, by decide, fun h1 => ?_, fun hn o2 ob2 hb2 ho2 => ?_⟩
    · have s89 := s1
      have hr1 : 1 + r = 1 := by omega
      have tbo : TB H8a (.ref o1) (List.replicate (1 + r) 1) := ⟨o1, rfl, by rw [hr1]; exact b1⟩
      have tbm9 := tbm.mono s1
      generalize (V.ref o1) = vo at tbo ⊢
      refine ⟨m.length, lenTR tbm9.r, u, m, vo, List.replicate (1 + r) 1, 1 + r + m.length - 2, true, by rw [hmany]; rfl, tbm9, tbo, tm, ones_tiny (by omega), es, nm, by omega, by rw [List.length_replicate]; omega, fun p9 H10 s10 e10 => ?_⟩
      rw [fo1.1] at e10
      refine ⟨u, m, rfl, (tbm9.mono s10).r, gm, fun p11 H11 s11 e11 => neTI (frTI (s11 _ _ e10)) (frTI e11) ⟨_, rfl, ?_⟩⟩
      rw [if_neg (by simp)]
      have tbm11 := (tbm9.mono s10).mono s11
      have tbo11 := (tbo.mono s10).mono s11
      refine ⟨u, m, vo, List.replicate (1 + r) 1, 1 + r + m.length - 2, false, by rw [hmany]; rfl, tbm11, tbo11, tm, ones_tiny (by omega), es, nm, by omega, by rw [List.length_replicate]; omega, fun p12 H12 s12 e12 => ?_⟩
      rw [fo1.2] at e12
      refine ⟨u, m, rfl, (tbm11.mono s12).r, gm, fun p13 H13 s13 e13 => eqTI (frTI (s13 _ _ e12)) (frTI e13) ?_⟩
      rw [decide_eq_true rfl]
      have sall : Same H8 H13 := Same.trans s89 (Same.trans s10 (Same.trans s11 (Same.trans s12 s13)))
      exact q H13 (d8.same sall) (SameX.trans sx6 (SameX.trans sx7 (SameX.trans (Same.x (same_upd hz)) (SameX.trans sx8 (Same.x sall)))))
    · have s89 : Same H8 (upd H8a o2 (.frz ob2 (.tup (List.replicate (1 + (r : Int)).toNat [V.int 1]).flatten))) := Same.trans s1 (same_upd ho2)
      have hrt : (1 + (r : Int)).toNat = 1 + r := by omega
      have tbo : TB (upd H8a o2 (.frz ob2 (.tup (List.replicate (1 + (r : Int)).toNat [V.int 1]).flatten))) (.ref o2) (List.replicate (1 + r) 1) := ⟨o2, rfl, ob2, by rw [upd_same, hrt, rep_int], hb2⟩
      have tbm9 := tbm.mono s89
      generalize (upd H8a o2 (.frz ob2 (.tup (List.replicate (1 + (r : Int)).toNat [V.int 1]).flatten))) = H9 at s89 tbo tbm9 ⊢
      generalize (V.ref o2) = vo at tbo ⊢
      refine ⟨m.length, lenTR tbm9.r, u, m, vo, List.replicate (1 + r) 1, 1 + r + m.length - 2, true, by rw [hmany]; rfl, tbm9, tbo, tm, ones_tiny (by omega), es, nm, by omega, by rw [List.length_replicate]; omega, fun p9 H10 s10 e10 => ?_⟩
      rw [fo1.1] at e10
      refine ⟨u, m, rfl, (tbm9.mono s10).r, gm, fun p11 H11 s11 e11 => neTI (frTI (s11 _ _ e10)) (frTI e11) ⟨_, rfl, ?_⟩⟩
      rw [if_neg (by simp)]
      have tbm11 := (tbm9.mono s10).mono s11
      have tbo11 := (tbo.mono s10).mono s11
      refine ⟨u, m, vo, List.replicate (1 + r) 1, 1 + r + m.length - 2, false, by rw [hmany]; rfl, tbm11, tbo11, tm, ones_tiny (by omega), es, nm, by omega, by rw [List.length_replicate]; omega, fun p12 H12 s12 e12 => ?_⟩
      rw [fo1.2] at e12
      refine ⟨u, m, rfl, (tbm11.mono s12).r, gm, fun p13 H13 s13 e13 => eqTI (frTI (s13 _ _ e12)) (frTI e13) ?_⟩
      rw [decide_eq_true rfl]
      have sall : Same H8 H13 := Same.trans s89 (Same.trans s10 (Same.trans s11 (Same.trans s12 s13)))
      exact q H13 (d8.same sall) (SameX.trans sx6 (SameX.trans sx7 (SameX.trans (Same.x (same_upd hz)) (SameX.trans sx8 (Same.x sall)))))
end
end K53
namespace K53
open PySem PySem.Spec PyProof.Rows L2
local macro_rules | `(tactic| walk_at "rd") => `(tactic| simp only [ap_seq, ap_next, ap_drop, ap_ret, ap_retN, ap_ifS, ap_asg, ap_par, ap_par3, ap_aug, ap_nm, ap_test, ap_tB, ap_and, ap_or, ap_not, ap_if, ap_andV, ap_notV, ap_op, ap_un, ap_c, ap_var, ap_nil, ap_cons, ap_tup, ap_lst, ap_cl, ap_cb, ap_bm, ap_bm0, ap_sl, ap_nopart, ap_part, ap_never, ap_chain, ap_fld, ap_gtup, ap_gcons, ap_gnil, ap_yes, ap_revL, ap_star,
  r_I, r_I0, r_U, r_eq, r_ne, r_isi, r_ixT, r_ixL, r_gcd, r_comb, r_sumT, r_sum, r_app, r_setI, r_mulB, ap_orV, ap_mk, ap_cw, ap_ck, ap_sSl, ap_nnew, r_nni, r_nget, r_nput, ap_mt, r_gixL, ap_augS, r_ipI, ap_tupB, ap_cnt, r_slB, cx_w, cx_P, r_sSet, r_cntT, r_setL, ap_gsub, ap_dcT, ap_dispT, ap_dnewT, ap_dget, ap_dget2, ap_dput, w_itemsT, w_keys, r_rep, r_sorted, r_slL, r_in, ap_lc2, w_enumT, ap_for, ap_lc, w_tup, w_list, w_r1, w_r2, w_enum, w_zip, cx_K, cx_Kn, wipe,
  L2.start, List.length_cons, List.length_nil, List.map_cons, List.map_nil, List.cons_append, List.nil_append, List.replicate, Nat.zero_add, Nat.reduceAdd, Nat.reduceSub, List.set_cons_zero, List.set_cons_succ,
  List.getElem?_cons_zero, List.getElem?_cons_succ, Option.some.injEq, V.int.injEq, V.bl.injEq, V.str.injEq, V.ref.injEq, exists_eq_left, exists_eq_left', List.cons.injEq, and_true, true_and, and_assoc, scal, exists_and_left, decide_eq_true_eq, bne_iff_ne, Bool.not_eq_true', decide_eq_false_iff_not, if_true, if_false, Bool.false_eq_true, Bool.true_eq_false, if_pos, ite_true, ite_false, Bool.not_true, Bool.not_false])
theorem good_of {l : LI} (t : Nat) (h : (1 ≤ t ∧ t ≤ 24) ∧ l.sum = (t : Int) ∧ (∀ m ∈ l, (1 : Int) ≤ m) ∧ l.Pairwise (· ≥ ·)) : Good l := ⟨t, h.1.1, h.1.2, h.2.1, h.2.2.1, h.2.2.2⟩
theorem good31 : Good [3, 1] := good_of 4 (by decide)
theorem good211 : Good [2, 1, 1] := good_of 4 (by decide)
theorem good2 : Good [2] := good_of 2 (by decide)
theorem good11 : Good [1, 1] := good_of 2 (by decide)
theorem good22 : Good [2, 2] := good_of 4 (by decide)
theorem good3 : Good [3] := good_of 3 (by decide)
theorem good21 : Good [2, 1] := good_of 3 (by decide)
theorem good1 : Good [1] := good_of 1 (by decide)
section
variable {P : Program} {w : World} {K : PySem.W.Frag} {mg : Str → Option Value} {base : Heap} {C : Addr}
theorem law_fn {f : Addr} {fd : FuncData} (T : Tx K mg) (c_law_dice : Cal P w K mg base 1 "_law_dice" (spDice K)) (c_law_genus_right : Cal P w K mg base 18 "_law_genus_right" spRight) (c_law_ones_right : Cal P w K mg base 18 "_law_ones_right" spRight) (c_genus_of : Cal P w K mg base 8 "genus_of" spGenus) (c_swaps_of_genus : Cal P w K mg base 8 "swaps_of_genus" spSwaps) (c_single_number : Cal P w K mg base 7 "single_number" spSingle) (c_rising_single_number : Cal P w K mg base 7 "rising_single_number" spRising) (F : Fun K "law" "law" s_law f fd) : FnOk P w K mg base CX0 19 f fd ["_law_script"] (spLaw K) := by
  refine F.ok sc_law (fun vs H Q E h => ?_) fun cdv A outer s H vs Q E hr h => ?_
  · obtain ⟨a, ns, rfl, _⟩ := h
    rfl
  · obtain ⟨a, ns, rfl, e, hl, q⟩ := h
    refine ⟨_, (pss_cons (ps_for PassesOwn.never rfl (pi_range1 rfl T.range (pa_cons (pe_callB (call_max2 rfl) (by rfl) T.max (by decide +kernel) (pa_cons pe_int (pa_cons (pe_callB (call_min2 rfl) (by rfl) T.min (by decide +kernel) (pa_cons pe_int (pa_cons (pe_callB call_len (by rfl) T.len (by decide +kernel) (pa_cons (pv 0) pa_nil)) pa_nil))) pa_nil))) pa_nil)) (pg_name (i := 1) sc_law.nd rfl (Or.inl rfl)) (pss_cons (ps_set (i := 2) sc_law.nd rfl (Or.inl rfl) (pe_c c_law_dice hr (by decide) (by rfl) (pa_cons (pv 0) (pa_cons (pv 1) pa_nil))))
        (pss_one (ps_if (PW.pt (pw_or (pt_not (pt_val (pe_c c_law_genus_right hr (by decide) (by rfl) (pa_cons (pv 2) pa_nil)))) (pw_or (pt_not (pt_val (pe_c c_law_genus_right hr (by decide) (by rfl) (pa_cons (pv 2) pa_nil)))) (pw_or1 (pt_not (pt_val (pe_c c_law_ones_right hr (by decide) (by rfl) (pa_cons (pv 2) pa_nil)))))))) (pss_one (ps_ret pe_bl)) pss_nil))))
        (pss_cons (ps_set (i := 3) sc_law.nd rfl (Or.inl rfl) (pe_lst (pa_cons (pe_c c_genus_of hr (by decide) (by rfl) (pa_cons (pe_tup (pa_cons pe_int (pa_cons pe_int pa_nil))) (pa_cons (pe_tup (pa_cons pe_int (pa_cons pe_int (pa_cons pe_int pa_nil)))) (pa_cons pe_int pa_nil)))) (pa_cons (pe_c c_genus_of hr (by decide) (by rfl) (pa_cons (pe_tup (pa_cons pe_int pa_nil)) (pa_cons (pe_tup (pa_cons pe_int pa_nil)) (pa_cons pe_int pa_nil)))) (pa_cons (pe_c c_genus_of hr (by decide) (by rfl) (pa_cons (pe_tup (pa_cons pe_int (pa_cons pe_int pa_nil))) (pa_cons (pe_tup (pa_cons pe_int (pa_cons pe_int pa_nil))) (pa_cons pe_int pa_nil)))) (pa_cons (pe_c c_swaps_of_genus hr (by decide) (by rfl) (pa_cons (pe_tup (pa_cons pe_int (pa_cons pe_int pa_nil))) (pa_cons (pe_tup (pa_cons pe_int (pa_cons pe_int pa_nil))) (pa_cons pe_int pa_nil)))) pa_nil))))))
        (pss_cons (ps_if (pt_cmpR (op_neD hr.units) (pv 3) (pe_lst (pa_cons pe_int (pa_cons pe_non (pa_cons (pe_un un_neg pe_int) (pa_cons pe_int pa_nil))))) (nomark _)) (pss_one (ps_ret pe_bl)) pss_nil)
        (pss_cons (ps_set (i := 3) sc_law.nd rfl (Or.inl rfl) (pe_lst (pa_cons (pe_c c_single_number hr (by decide) (by rfl) (pa_cons (pe_tup (pa_cons pe_int (pa_cons pe_int pa_nil))) pa_nil)) (pa_cons (pe_c c_single_number hr (by decide) (by rfl) (pa_cons (pe_tup (pa_cons pe_int pa_nil)) pa_nil)) (pa_cons (pe_c c_rising_single_number hr (by decide) (by rfl) (pa_cons (pe_tup (pa_cons pe_int (pa_cons pe_int pa_nil))) pa_nil)) (pa_cons (pe_c c_single_number hr (by decide) (by rfl) (pa_cons (pe_tup (pa_cons pe_int pa_nil)) pa_nil)) (pa_cons (pe_c c_rising_single_number hr (by decide) (by rfl) (pa_cons (pe_tup (pa_cons pe_int pa_nil)) pa_nil)) pa_nil)))))))
        (pss_one (ps_ret (pe_cmpR (op_eqD hr.units) (pv 3) (pe_lst (pa_cons (pe_tup (pa_cons pe_int (pa_cons pe_int pa_nil))) (pa_cons (pe_tup (pa_cons pe_int (pa_cons pe_int pa_nil))) (pa_cons (pe_tup (pa_cons pe_int (pa_cons pe_int pa_nil))) (pa_cons (pe_tup (pa_cons pe_int (pa_cons pe_int pa_nil))) (pa_cons (pe_tup (pa_cons pe_int (pa_cons pe_int pa_nil))) pa_nil)))))) (nomark _)))))))), ?_⟩
    walk_at "rd"
    have hn : ∃ n : Nat, (if (if (ns.length : Int) < 2 then (ns.length : Int) else 2) > 1 then if (ns.length : Int) < 2 then (ns.length : Int) else 2 else 1) = (n : Int) ∧ n ≤ 2 := by
      refine ⟨(if (if (ns.length : Int) < 2 then (ns.length : Int) else 2) > 1 then if (ns.length : Int) < 2 then (ns.length : Int) else 2 else 1).toNat, ?_, ?_⟩ <;> (repeat' split) <;> omega
    obtain ⟨n, hn, hn2⟩ := hn
    refine ⟨ns.length, .inl ⟨_, e, by simp⟩, ?_⟩
    rw [hn]
    refine ⟨by omega, by omega, ?_⟩
    rw [Int.toNat_natCast]
    refine for_it walk_range (fun i σ H' => Same H H' ∧ ∃ b1 b2, σ = [some (.ref a), b1, b2, none]) ⟨Same.refl, _, _, rfl⟩ (fun _ _ _ _ _ => trivial) ?_ ?_
    · rintro i x σ H1 H2 hi ⟨s1, b1, b2, rfl⟩ ⟨rfl, rfl⟩
      walk_at "rd"
      refine ⟨a, ns, i, by rw [Int.zero_add], SqL.same s1 e, by omega, fun r H3 s3 hr d3 => ⟨r, rfl, d3, fun H4 d4 sx4 => ⟨true, rfl, ?_⟩⟩⟩
      rw [if_neg (by decide)]
      refine ⟨r, rfl, d4, fun H5 d5 sx5 => ⟨true, rfl, ?_⟩⟩
      rw [if_neg (by decide)]
      refine ⟨r, rfl, d5, fun H6 d6 sx6 => ⟨true, rfl, ?_⟩⟩
      rw [if_neg (by decide)]
      refine ⟨fun b o eb => ?_, by simp⟩
      have e2 := s1 _ _ eb
      have nb : b ≠ r := ne_of_none e2 hr
      exact sx6 _ _ nb (sx5 _ _ nb (sx4 _ _ nb (s3 _ _ e2)))
    · rintro σ H1 ⟨s1, b1, b2, rfl⟩
      walk_at "rd"
      refine ⟨by decide, fun q1 h1 => ⟨by decide, fun q2 h2 => ⟨.ref q1, [3, 1], .ref q2, [2, 1, 1], 5, rfl, TI.r ⟨q1, rfl, same_upd h2 _ _ upd_same⟩, TI.r ⟨q2, rfl, upd_same⟩, good31, good211, rfl, by decide, fun H2 s2 => ?_⟩⟩⟩
      rw [show genusV 5 [3, 1] [2, 1, 1] = .int 1 by decide +kernel]
      refine ⟨by decide, fun q1 h1 => ⟨by decide, fun q2 h2 => ⟨.ref q1, [2], .ref q2, [2], 1, rfl, TI.r ⟨q1, rfl, same_upd h2 _ _ upd_same⟩, TI.r ⟨q2, rfl, upd_same⟩, good2, good2, rfl, by decide, fun H3 s3 => ?_⟩⟩⟩
      rw [show genusV 1 [2] [2] = .non by decide +kernel]
      refine ⟨by decide, fun q1 h1 => ⟨by decide, fun q2 h2 => ⟨.ref q1, [1, 1], .ref q2, [1, 1], 0, rfl, TI.r ⟨q1, rfl, same_upd h2 _ _ upd_same⟩, TI.r ⟨q2, rfl, upd_same⟩, good11, good11, rfl, by decide, fun H4 s4 => ?_⟩⟩⟩
      rw [show genusV 0 [1, 1] [1, 1] = .int (-1) by decide +kernel]
      refine ⟨by decide, fun q1 h1 => ⟨by decide, fun q2 h2 => ⟨.ref q1, [2, 2], .ref q2, [3, 1], 1, rfl, TI.r ⟨q1, rfl, same_upd h2 _ _ upd_same⟩, TI.r ⟨q2, rfl, upd_same⟩, good22, good31, rfl, by decide, fun H5 s5 => ?_⟩⟩⟩
      refine ⟨by decide, fun l1 hl1 => ⟨by decide, fun l2 hl2 => ?_⟩⟩
      refine ⟨.list [.int 1, .none, .int (-1), .int 4], .list [.int 1, .none, .int (-1), .int 4], .lst (SqL.of' (same_upd hl2 _ _ upd_same)) (.cons (.int 1) (.cons .non (.cons (.int (-1)) (.cons (.int 4) .nil)))), .lst (SqL.of' upd_same) (.cons (.int 1) (.cons .non (.cons (.int (-1)) (.cons (.int 4) .nil)))), by decide +kernel, by decide +kernel, _, rfl, ?_⟩
      rw [if_neg (by decide +kernel)]
      generalize upd (upd H5 l1 _) l2 _ = H6
      refine ⟨by decide, fun q1 h1 => ⟨.ref q1, [2, 2], rfl, TI.r ⟨q1, rfl, upd_same⟩, good22, fun a1 H7 s7 e7 => ?_⟩⟩
      rw [show singleM [2, 2] = (576, 1) by decide +kernel] at e7
      refine ⟨by decide, fun q1 h1 => ⟨.ref q1, [3], rfl, TI.r ⟨q1, rfl, upd_same⟩, good3, fun a2 H8 s8 e8 => ?_⟩⟩
      rw [show singleM [3] = (6, 1) by decide +kernel] at e8
      have e78 := s8 _ _ (same_upd h1 _ _ e7)
      refine ⟨by decide, fun q1 h1 => ⟨.ref q1, [2, 1], rfl, TI.r ⟨q1, rfl, upd_same⟩, good21, fun a3 H9 s9 e9 => ?_⟩⟩
      rw [show risingM [2, 1] = (12, 1) by decide +kernel] at e9
      have s89 : Same H8 H9 := Same.trans (same_upd h1) s9
      refine ⟨by decide, fun q1 h1 => ⟨.ref q1, [1], rfl, TI.r ⟨q1, rfl, upd_same⟩, good1, fun a4 H10 s10 e10 => ?_⟩⟩
      rw [show singleM [1] = (1, 1) by decide +kernel] at e10
      have s910 : Same H9 H10 := Same.trans (same_upd h1) s10
      refine ⟨by decide, fun q1 h1 => ⟨.ref q1, [1], rfl, TI.r ⟨q1, rfl, upd_same⟩, good1, fun a5 H11 s11 e11 => ?_⟩⟩
      rw [show risingM [1] = (1, 1) by decide +kernel] at e11
      have s1011 : Same H10 H11 := Same.trans (same_upd h1) s11
      have f1 := s1011 _ _ (s910 _ _ (s89 _ _ e78))
      have f2 := s1011 _ _ (s910 _ _ (s89 _ _ e8))
      have f3 := s1011 _ _ (s910 _ _ e9)
      have f4 := s1011 _ _ e10
      refine ⟨by decide, fun l3 hl3 => ⟨by decide, fun z1 h1 => ⟨by decide, fun z2 h2 => ⟨by decide, fun z3 h3 => ⟨by decide, fun z4 h4 => ⟨by decide, fun z5 h5 => ⟨by decide, fun l4 hl4 => ?_⟩⟩⟩⟩⟩⟩⟩
      have t0 := Same.upd (o := .lst [.ref z1, .ref z2, .ref z3, .ref z4, .ref z5]) (Same.upd (o := .tup [.int 1, .int 1]) (Same.upd (o := .tup [.int 1, .int 1]) (Same.upd (o := .tup [.int 12, .int 1]) (Same.upd (o := .tup [.int 6, .int 1]) (Same.upd (o := .tup [.int 576, .int 1]) (same_upd (o := .lst [.ref a1, .ref a2, .ref a3, .ref a4, .ref a5]) hl3) h1) h2) h3) h4) h5) hl4
      have u3 := same_upd (o := .lst [.ref z1, .ref z2, .ref z3, .ref z4, .ref z5]) hl4 _ _ (same_upd (o := .tup [.int 1, .int 1]) h5 _ _ (same_upd (o := .tup [.int 1, .int 1]) h4 _ _ (same_upd (o := .tup [.int 12, .int 1]) h3 _ _ (same_upd (o := .tup [.int 6, .int 1]) h2 _ _ (same_upd (o := .tup [.int 576, .int 1]) h1 _ _ (upd_same (H := H11) (a := l3) (o := .lst [.ref a1, .ref a2, .ref a3, .ref a4, .ref a5])))))))
      have y5 := same_upd (o := .lst [.ref z1, .ref z2, .ref z3, .ref z4, .ref z5]) hl4 _ _ upd_same
      have y4 := same_upd (o := .lst [.ref z1, .ref z2, .ref z3, .ref z4, .ref z5]) hl4 _ _ (same_upd (o := .tup [.int 1, .int 1]) h5 _ _ upd_same)
      have y3 := same_upd (o := .lst [.ref z1, .ref z2, .ref z3, .ref z4, .ref z5]) hl4 _ _ (same_upd (o := .tup [.int 1, .int 1]) h5 _ _ (same_upd (o := .tup [.int 1, .int 1]) h4 _ _ upd_same))
      have y2 := same_upd (o := .lst [.ref z1, .ref z2, .ref z3, .ref z4, .ref z5]) hl4 _ _ (same_upd (o := .tup [.int 1, .int 1]) h5 _ _ (same_upd (o := .tup [.int 1, .int 1]) h4 _ _ (same_upd (o := .tup [.int 12, .int 1]) h3 _ _ upd_same)))
      have y1 := same_upd (o := .lst [.ref z1, .ref z2, .ref z3, .ref z4, .ref z5]) hl4 _ _ (same_upd (o := .tup [.int 1, .int 1]) h5 _ _ (same_upd (o := .tup [.int 1, .int 1]) h4 _ _ (same_upd (o := .tup [.int 12, .int 1]) h3 _ _ (same_upd (o := .tup [.int 6, .int 1]) h2 _ _ upd_same))))
      refine ⟨.list [dI [576, 1], dI [6, 1], dI [12, 1], dI [1, 1], dI [1, 1]], .list [dI [576, 1], dI [6, 1], dI [12, 1], dI [1, 1], dI [1, 1]], .lst (SqL.of' u3) (.cons (dp_TI ⟨a1, rfl, t0 _ _ f1⟩) (.cons (dp_TI ⟨a2, rfl, t0 _ _ f2⟩) (.cons (dp_TI ⟨a3, rfl, t0 _ _ f3⟩) (.cons (dp_TI ⟨a4, rfl, t0 _ _ f4⟩) (.cons (dp_TI ⟨a5, rfl, t0 _ _ e11⟩) .nil))))), .lst (SqL.of' upd_same) (.cons (dp_TI ⟨z1, rfl, y1⟩) (.cons (dp_TI ⟨z2, rfl, y2⟩) (.cons (dp_TI ⟨z3, rfl, y3⟩) (.cons (dp_TI ⟨z4, rfl, y4⟩) (.cons (dp_TI ⟨z5, rfl, y5⟩) .nil))))), by decide +kernel, by decide +kernel, ?_⟩
      rw [show PyData.eqv (.list [dI [576, 1], dI [6, 1], dI [12, 1], dI [1, 1], dI [1, 1]]) (.list [dI [576, 1], dI [6, 1], dI [12, 1], dI [1, 1], dI [1, 1]]) = true by decide +kernel]
      exact q _
end
end K53
/-! E20: what the top has written, joined. -/
namespace K53
open PySem PySem.Spec PyProof.Rows L2
/-- a def as it stands behind the top -/
structure Def0 (K : PySem.W.Frag) (x : Str) (st : Stmt) : Prop where
  ex : ∃ (f : Addr) (oc : Value) (od : Option Addr) (kV dc pm : Value) (an : Option Addr) (cd ct : Value) (sl : Array (Option Value)), PySem.W.nsIn K mainGlobals x = some (some (.ref f)) ∧ K.lookup f = some ⟨oc, od, .func (PySem.W.fnOf x x (defArgs st) (defBody st) (defScope st) .none kV dc pm an cd ct), sl⟩ ∧ PySem.W.codeIn K cd x = true ∧ PySem.W.keepIn K (.ref f) = true
theorem def0 {K : PySem.W.Frag} {x : Str} {st : Stmt} {f : Addr} {oc : Value} {od : Option Addr} {kV dc pm : Value} {an : Option Addr} {cd ct : Value} {sl : Array (Option Value)} (a : PySem.W.nsIn K mainGlobals x = some (some (.ref f)))
    (l : K.lookup f = some ⟨oc, od, .func (PySem.W.fnOf x x (defArgs st) (defBody st) (defScope st) .none kV dc pm an cd ct), sl⟩) (c : PySem.W.codeIn K cd x = true) (k : PySem.W.keepIn K (.ref f) = true) : Def0 K x st := ⟨f, oc, od, kV, dc, pm, an, cd, ct, sl, a, l, c, k⟩
theorem Def0.at {K : PySem.W.Frag} {x : Str} {st : Stmt} (d : Def0 K x st) {h : Heap} {mg : Str → Option Value} (X : K.In h) (G : h.Ns mainGlobals mg) : DefAt K mg x st := by
  obtain ⟨f, oc, od, kV, dc, pm, an, cd, ct, sl, a, l, c, k⟩ := d.ex
  exact ⟨f, _, fun_mk (st := st) l c k, PySem.W.mg_of X G a⟩
/-- a method as it stands -/
theorem met0 {K : PySem.W.Frag} {C : Addr} {m qual : Str} {st : Stmt} {f : Addr} {oc : Value} {od : Option Addr} {kV dc pm : Value} {an : Option Addr} {cd ct : Value} {sl : Array (Option Value)} (a : PySem.W.findIn K (.ref C) m = some (some (.ref f))) (i : PySem.W.isFn K (.ref f) = true)
    (l : K.lookup f = some ⟨oc, od, .func (PySem.W.fnOf m qual (defArgs st) (defBody st) (defScope st) .none kV dc pm an cd ct), sl⟩) (c : PySem.W.codeIn K cd qual = true) (k : PySem.W.keepIn K (.ref f) = true) : MetAt K C m qual st := ⟨f, _, fun_mk (st := st) l c k, a, i, k⟩
/-- the def with a keyword's rule -/
structure DefW0 (K : PySem.W.Frag) (x : Str) (st : Stmt) : Prop where
  ex : ∃ (f D : Addr) (tk : Tok) (oc : Value) (od : Option Addr) (dc pm : Value) (an : Option Addr) (cd ct : Value) (sl : Array (Option Value)), PySem.W.nsIn K mainGlobals x = some (some (.ref f)) ∧ K.lookup f = some ⟨oc, od, .func (PySem.W.fnOf x x (defArgs st) (defBody st) (defScope st) .none (.ref D) dc pm an cd ct), sl⟩ ∧ PySem.W.codeIn K cd x = true ∧ PySem.W.keepIn K (.ref f) = true ∧ PySem.W.nsIn K D "word" = some (some (.str "all" tk))
theorem defw0 {K : PySem.W.Frag} {x : Str} {st : Stmt} {f D : Addr} {tk : Tok} {oc : Value} {od : Option Addr} {dc pm : Value} {an : Option Addr} {cd ct : Value} {sl : Array (Option Value)} (a : PySem.W.nsIn K mainGlobals x = some (some (.ref f)))
    (l : K.lookup f = some ⟨oc, od, .func (PySem.W.fnOf x x (defArgs st) (defBody st) (defScope st) .none (.ref D) dc pm an cd ct), sl⟩) (c : PySem.W.codeIn K cd x = true) (k : PySem.W.keepIn K (.ref f) = true) (n : PySem.W.nsIn K D "word" = some (some (.str "all" tk))) : DefW0 K x st := ⟨f, D, tk, oc, od, dc, pm, an, cd, ct, sl, a, l, c, k, n⟩
theorem DefW0.at {K : PySem.W.Frag} {x : Str} {st : Stmt} (d : DefW0 K x st) {h : Heap} {mg : Str → Option Value} (X : K.In h) (G : h.Ns mainGlobals mg) : DefW K mg x st := by
  obtain ⟨f, D, tk, oc, od, dc, pm, an, cd, ct, sl, a, l, c, k, n⟩ := d.ex
  refine ⟨f, _, ⟨⟨oc, od, .none, .ref D, dc, pm, an, cd, ct, sl, rfl, l, c, .inl ⟨rfl, rfl⟩, .inr ⟨D, rfl, fun q hq => ?_⟩⟩, k⟩, PySem.W.mg_of X G a⟩
  obtain rfl := List.mem_singleton.mp hq
  exact ⟨_, n, tk, rfl⟩
/-- a slot -/
theorem slot0 {K : PySem.W.Frag} {C p : Addr} {f : Str} {i : Nat} (a : PySem.W.findIn K (.ref C) f = some (some (.ref p))) (g : PySem.W.specialIn K (.ref p) "__get__" = some (some (.builtin "member_descriptor.__get__"))) (t : PySem.W.takesIn K (.ref p) = some true) (y : PySem.W.typeIn K (.ref p) = some (.type "member_descriptor")) (x : PySem.W.slotIn K p C = some i) (lt : i < 1000) : ∃ p, SlX.Slot1 K C f p i := ⟨p, a, g, t, y, x, lt⟩
/-- a constant -/
structure Con0 (K : PySem.W.Frag) (x : Str) (v : V) : Prop where
  ex : ∃ u, PySem.W.nsIn K mainGlobals x = some (some u) ∧ RelV v u
theorem conI {K : PySem.W.Frag} {x : Str} {i : Int} {t : Tok} (a : PySem.W.nsIn K mainGlobals x = some (some (.int i t))) : Con0 K x (.int i) := ⟨_, a, t, rfl⟩
theorem conS {K : PySem.W.Frag} {x z : Str} {t : Tok} (a : PySem.W.nsIn K mainGlobals x = some (some (.str z t))) : Con0 K x (.str z) := ⟨_, a, t, rfl⟩
theorem Con0.at {K : PySem.W.Frag} {x : Str} {v : V} (c : Con0 K x v) {h : Heap} {mg : Str → Option Value} (X : K.In h) (G : h.Ns mainGlobals mg) : Const mg x v := by
  obtain ⟨u, a, r⟩ := c.ex
  exact ⟨u, PySem.W.mg_of X G a, r⟩
structure Words0 (K : PySem.W.Frag) : Prop where
  ex : ∃ a, PySem.W.nsIn K mainGlobals "WORDS" = some (some (.ref a)) ∧ ∀ H, SqT K H a [.str "all", .str "rising", .str "strict"]
theorem words0 {K : PySem.W.Frag} {a : Addr} {dd : Option Addr} {t1 t2 t3 : Tok} {n : Nat} {sl : Array (Option Value)} (h : PySem.W.nsIn K mainGlobals "WORDS" = some (some (.ref a))) (l : K.lookup a = some ⟨.type "tuple", dd, .seq #[.str "all" t1, .str "rising" t2, .str "strict" t3] n, sl⟩) : Words0 K :=
  ⟨a, h, fun H => .inr ⟨_, _, _, l, rfl, rfl, (by show 3 ≤ sizeLine; decide), .cons ⟨t1, rfl⟩ (.cons ⟨t2, rfl⟩ (.cons ⟨t3, rfl⟩ .nil))⟩⟩
theorem all_mk {l : PySem.W.OpenLaw} {w : World} {K : PySem.W.Frag} {h : Heap} {mg : Str → Option Value} {fa C : Addr} (fg : FactG) (fo : FactO) (X : K.In h) (G : h.Ns mainGlobals mg) (hfa : mg "law" = some (.ref fa))
    (d_is_whole : Def0 K "is_whole" s_is_whole)
    (d_is_integer : Def0 K "is_integer" s_is_integer)
    (d_is_within : Def0 K "is_within" s_is_within)
    (d_require_within : Def0 K "require_within" s_require_within)
    (d_fraction_in : Def0 K "fraction_in" s_fraction_in)
    (d_product_in : Def0 K "product_in" s_product_in)
    (d_power_in : Def0 K "power_in" s_power_in)
    (d_lots_in : Def0 K "lots_in" s_lots_in)
    (d_lots : Def0 K "lots" s_lots)
    (d_is_lot : Def0 K "is_lot" s_is_lot)
    (d_is_some_lot : Def0 K "is_some_lot" s_is_some_lot)
    (d_require_some : Def0 K "require_some" s_require_some)
    (d_require_both : Def0 K "require_both" s_require_both)
    (d_is_word : Def0 K "is_word" s_is_word)
    (d_require_word : Def0 K "require_word" s_require_word)
    (d_require_linked : Def0 K "require_linked" s_require_linked)
    (d_genus_of : Def0 K "genus_of" s_genus_of)
    (d_swaps_of_genus : Def0 K "swaps_of_genus" s_swaps_of_genus)
    (d_factorial_in : Def0 K "factorial_in" s_factorial_in)
    (d_members_product : Def0 K "members_product" s_members_product)
    (d_squares_in : Def0 K "squares_in" s_squares_in)
    (d_contents_in : Def0 K "contents_in" s_contents_in)
    (d_beads_in : Def0 K "beads_in" s_beads_in)
    (d_lot_in : Def0 K "lot_in" s_lot_in)
    (d_put_in : Def0 K "put_in" s_put_in)
    (d_reached_in : Def0 K "reached_in" s_reached_in)
    (d_column_in : Def0 K "column_in" s_column_in)
    (d_pairs_in : Def0 K "pairs_in" s_pairs_in)
    (d_factor_row : Def0 K "factor_row" s_factor_row)
    (d_shares_of_lot : Def0 K "shares_of_lot" s_shares_of_lot)
    (d_shares_with_first : Def0 K "shares_with_first" s_shares_with_first)
    (d_share_of : Def0 K "share_of" s_share_of)
    (d_single_number : Def0 K "single_number" s_single_number)
    (d_rising_single_number : Def0 K "rising_single_number" s_rising_single_number)
    (d_law_dice : Def0 K "_law_dice" s__law_dice)
    (d_law_roll : Def0 K "_law_roll" s__law_roll)
    (d_law_pick : Def0 K "_law_pick" s__law_pick)
    (d_law_gcd : Def0 K "_law_gcd" s__law_gcd)
    (d_law_fraction : Def0 K "_law_fraction" s__law_fraction)
    (d_law_times : Def0 K "_law_times" s__law_times)
    (d_law_power : Def0 K "_law_power" s__law_power)
    (d_law_factorial : Def0 K "_law_factorial" s__law_factorial)
    (d_law_binomial : Def0 K "_law_binomial" s__law_binomial)
    (d_law_lot_of : Def0 K "_law_lot_of" s__law_lot_of)
    (d_law_lot_drawn : Def0 K "_law_lot_drawn" s__law_lot_drawn)
    (d_law_ln_other : Def0 K "_law_ln_other" s__law_ln_other)
    (d_law_single : Def0 K "_law_single" s__law_single)
    (d_linked_in : Def0 K "linked_in" s_linked_in)
    (d_law_genus_right : Def0 K "_law_genus_right" s__law_genus_right)
    (d_law_ones_right : Def0 K "_law_ones_right" s__law_ones_right)
    (d_law : Def0 K "law" s_law)
    (d_linked_number : DefW0 K "linked_number" s_linked_number)
    (aC : PySem.W.nsIn K mainGlobals "Links" = some (some (.ref C)))
    (m_put_beside : MetAt K C "put_beside" "Links.put_beside" s_Links_put_beside)
    (m_partings : MetAt K C "partings" "Links.partings" s_Links_partings)
    (m_init : MetAt K C "__init__" "Links.__init__" s_Links_init)
    (m_numbered : MetAt K C "numbered" "Links.numbered" s_Links_numbered)
    (m_linked : MetAt K C "linked" "Links.linked" s_Links_linked)
    (sl0 : ∃ p, SlX.Slot1 K C "own_linked" p 0)
    (sl1 : ∃ p, SlX.Slot1 K C "own_many" p 1)
    (sl2 : ∃ p, SlX.Slot1 K C "own_numbered" p 2)
    (sl3 : ∃ p, SlX.Slot1 K C "own_summed" p 3)
    (sl4 : ∃ p, SlX.Slot1 K C "own_word" p 4)
    (pg : PySem.W.plainGet K C Str.empty = true)
    (ic : PySem.W.isClsIn K C = true)
    (po : PySem.W.plainOver K C = true)
    (sa : PySem.W.findIn K (.ref C) "__setattr__" = some (some (.builtin "object.__setattr__")))
    (mk : PySem.W.makesIn K C = true)
    (kc : PySem.W.keepIn K (.ref C) = true)
    (z_isinstance : PySem.W.nsIn K mainGlobals "isinstance" = some none)
    (z_int : PySem.W.nsIn K mainGlobals "int" = some none)
    (z_bool : PySem.W.nsIn K mainGlobals "bool" = some none)
    (z_str : PySem.W.nsIn K mainGlobals "str" = some none)
    (z_tuple : PySem.W.nsIn K mainGlobals "tuple" = some none)
    (z_list : PySem.W.nsIn K mainGlobals "list" = some none)
    (z_all : PySem.W.nsIn K mainGlobals "all" = some none)
    (z_sum : PySem.W.nsIn K mainGlobals "sum" = some none)
    (z_zip : PySem.W.nsIn K mainGlobals "zip" = some none)
    (z_range : PySem.W.nsIn K mainGlobals "range" = some none)
    (z_enumerate : PySem.W.nsIn K mainGlobals "enumerate" = some none)
    (z_len : PySem.W.nsIn K mainGlobals "len" = some none)
    (z_sorted : PySem.W.nsIn K mainGlobals "sorted" = some none)
    (z_set : PySem.W.nsIn K mainGlobals "set" = some none)
    (z_max : PySem.W.nsIn K mainGlobals "max" = some none)
    (z_min : PySem.W.nsIn K mainGlobals "min" = some none)
    (z_abs : PySem.W.nsIn K mainGlobals "abs" = some none)
    (z_gcd : PySem.W.nsIn K mainGlobals "gcd" = some (some (.builtin "math.gcd")))
    (z_comb : PySem.W.nsIn K mainGlobals "comb" = some (some (.builtin "math.comb")))
    (k_BOUND : Con0 K "BOUND" (.int (10 ^ 60)))
    (k_MAX_SUM : Con0 K "MAX_SUM" (.int 24))
    (k_MAX_ENDS : Con0 K "MAX_ENDS" (.int 10))
    (k_MAX_LINKED : Con0 K "MAX_LINKED" (.int 14))
    (k_MOST_LINKED : Con0 K "MOST_LINKED" (.int 60))
    (k_MOST_GENUS : Con0 K "MOST_GENUS" (.int 20))
    (k_ALL : Con0 K "ALL" (.str "all"))
    (k_RISING : Con0 K "RISING" (.str "rising"))
    (k_WORDS : Words0 K) :
    ∃ fd : FuncData, (∀ (s : Shared) (v : Value), BindsTo s fd ⟨[v], []⟩ [("_law_script", v)]) ∧ ∀ base : Heap, K.In base → base.Ns mainGlobals mg → FnOk l.prog w K mg base CX0 19 fa fd ["_law_script"] (spLaw K) := by
  have T : Tx K mg := by
    obtain ⟨wa, hwa, hws⟩ := k_WORDS.ex
    exact ⟨PySem.W.mg_none_of X G z_isinstance, PySem.W.mg_none_of X G z_int, PySem.W.mg_none_of X G z_bool, PySem.W.mg_none_of X G z_str, PySem.W.mg_none_of X G z_tuple, PySem.W.mg_none_of X G z_list, PySem.W.mg_none_of X G z_all, PySem.W.mg_none_of X G z_sum, PySem.W.mg_none_of X G z_zip, PySem.W.mg_none_of X G z_range, PySem.W.mg_none_of X G z_enumerate, PySem.W.mg_none_of X G z_len, PySem.W.mg_none_of X G z_sorted, PySem.W.mg_none_of X G z_set, PySem.W.mg_none_of X G z_max, PySem.W.mg_none_of X G z_min, PySem.W.mg_none_of X G z_abs, PySem.W.mg_of X G z_gcd, PySem.W.mg_of X G z_comb, k_BOUND.at X G, k_MAX_SUM.at X G, k_MAX_ENDS.at X G, k_MAX_LINKED.at X G, k_MOST_LINKED.at X G, k_MOST_GENUS.at X G, k_ALL.at X G, k_RISING.at X G, wa, PySem.W.mg_of X G hwa, hws⟩
  have L : LkT K C := ⟨⟨pg, ic, po, sa⟩, sl0, sl1, sl2, sl3, sl4⟩
  have M : LkM K mg C := ⟨PySem.W.mg_of X G aC, mk, kc⟩
  obtain ⟨f, oc, od, kV, dc, pm, an, cd, ct, sl, a, l1, c, k⟩ := d_law.ex
  have ea := hfa.symm.trans (PySem.W.mg_of X G a)
  cases ea
  have F := fun_mk (st := s_law) l1 c k
  refine ⟨PySem.W.fnOf "law" "law" (defArgs s_law) (defBody s_law) (defScope s_law) .none kV dc pm an cd ct, fun s v => .of_eq rfl, fun base Xb Gb => ?_⟩
  have c_is_whole := ok_is_whole (P := l.prog) (w := w) (base := base) T (d_is_whole.at X G)
  have c_is_integer := ok_is_integer (P := l.prog) (w := w) (base := base) T c_is_whole (d_is_integer.at X G)
  have c_is_within := ok_is_within (P := l.prog) (w := w) (base := base) c_is_integer (d_is_within.at X G)
  have c_require_within := ok_require_within (P := l.prog) (w := w) (base := base) c_is_within (d_require_within.at X G)
  have c_fraction_in := ok_fraction_in (P := l.prog) (w := w) (base := base) T (d_fraction_in.at X G)
  have c_product_in := ok_product_in (P := l.prog) (w := w) (base := base) c_fraction_in (d_product_in.at X G)
  have c_power_in := ok_power_in (P := l.prog) (w := w) (base := base)  (d_power_in.at X G)
  have c_lots_in := ok_lots_in (P := l.prog) (w := w) (base := base) T (d_lots_in.at X G)
  have c_lots := ok_lots (P := l.prog) (w := w) (base := base) T c_require_within c_lots_in (d_lots.at X G)
  have c_is_lot := ok_is_lot (P := l.prog) (w := w) (base := base) T c_is_within (d_is_lot.at X G)
  have c_is_some_lot := ok_is_some_lot (P := l.prog) (w := w) (base := base) c_is_lot (d_is_some_lot.at X G)
  have c_require_some := ok_require_some (P := l.prog) (w := w) (base := base) c_is_some_lot (d_require_some.at X G)
  have c_require_both := ok_require_both (P := l.prog) (w := w) (base := base) T c_require_some (d_require_both.at X G)
  have c_is_word := ok_is_word (P := l.prog) (w := w) (base := base) T (d_is_word.at X G)
  have c_require_word := ok_require_word (P := l.prog) (w := w) (base := base) c_is_word (d_require_word.at X G)
  have c_require_linked := ok_require_linked (P := l.prog) (w := w) (base := base) T c_require_both c_require_within c_require_word (d_require_linked.at X G)
  have c_genus_of := ok_genus_of (P := l.prog) (w := w) (base := base) T c_require_both c_require_within (d_genus_of.at X G)
  have c_swaps_of_genus := ok_swaps_of_genus (P := l.prog) (w := w) (base := base) T c_require_both c_require_within (d_swaps_of_genus.at X G)
  have c_factorial_in := ok_factorial_in (P := l.prog) (w := w) (base := base) T (d_factorial_in.at X G)
  have c_members_product := ok_members_product (P := l.prog) (w := w) (base := base)  (d_members_product.at X G)
  have c_squares_in := ok_squares_in (P := l.prog) (w := w) (base := base) T (d_squares_in.at X G)
  have c_contents_in := ok_contents_in (P := l.prog) (w := w) (base := base) c_squares_in (d_contents_in.at X G)
  have c_beads_in := ok_beads_in (P := l.prog) (w := w) (base := base) T (d_beads_in.at X G)
  have c_lot_in := ok_lot_in (P := l.prog) (w := w) (base := base) T (d_lot_in.at X G)
  have c_put_in := ok_put_in (P := l.prog) (w := w) (base := base) T c_beads_in c_lot_in (d_put_in.at X G)
  have c_reached_in := ok_reached_in (P := l.prog) (w := w) (base := base) c_put_in (d_reached_in.at X G)
  have c_column_in := ok_column_in (P := l.prog) (w := w) (base := base) T c_reached_in c_lots (d_column_in.at X G)
  have c_pairs_in := ok_pairs_in (P := l.prog) (w := w) (base := base) c_column_in c_contents_in (d_pairs_in.at X G)
  have c_factor_row := ok_factor_row (P := l.prog) (w := w) (base := base) T c_power_in (d_factor_row.at X G)
  have c_shares_of_lot := ok_shares_of_lot (P := l.prog) (w := w) (base := base) T (d_shares_of_lot.at X G)
  have c_shares_with_first := ok_shares_with_first (P := l.prog) (w := w) (base := base) c_shares_of_lot (d_shares_with_first.at X G)
  have c_put_beside := ok_Links_put_beside (P := l.prog) (w := w) (mg := mg) (base := base) T L m_put_beside
  have c_partings := ok_Links_partings (P := l.prog) (w := w) (mg := mg) (base := base) T c_shares_of_lot c_shares_with_first m_partings
  have c_init := ok_Links_init (P := l.prog) (w := w) (mg := mg) (base := base) L m_init
  have c_numbered := ok_Links_numbered (P := l.prog) (w := w) (mg := mg) (base := base) T L c_pairs_in c_factor_row m_numbered
  have c_share_of := ok_share_of (P := l.prog) (w := w) (base := base) c_fraction_in c_members_product (d_share_of.at X G)
  have c_single_number := ok_single_number (P := l.prog) (w := w) (base := base) T c_require_some c_factorial_in c_power_in c_fraction_in c_product_in (d_single_number.at X G)
  have c_rising_single_number := ok_rising_single_number (P := l.prog) (w := w) (base := base) T c_require_some c_factorial_in c_fraction_in (d_rising_single_number.at X G)
  have c_law_dice := ok__law_dice (P := l.prog) (w := w) (base := base) T (d_law_dice.at X G)
  have c_law_roll := ok__law_roll (P := l.prog) (w := w) (base := base) T (d_law_roll.at X G)
  have c_law_pick := ok__law_pick (P := l.prog) (w := w) (base := base) T c_law_roll (d_law_pick.at X G)
  have c_law_gcd := ok__law_gcd (P := l.prog) (w := w) (base := base) T (d_law_gcd.at X G)
  have c_law_fraction := ok__law_fraction (P := l.prog) (w := w) (base := base) c_law_gcd (d_law_fraction.at X G)
  have c_law_times := ok__law_times (P := l.prog) (w := w) (base := base) c_law_fraction (d_law_times.at X G)
  have c_law_power := ok__law_power (P := l.prog) (w := w) (base := base) T (d_law_power.at X G)
  have c_law_factorial := ok__law_factorial (P := l.prog) (w := w) (base := base) T (d_law_factorial.at X G)
  have c_law_binomial := ok__law_binomial (P := l.prog) (w := w) (base := base) T (d_law_binomial.at X G)
  have c_law_lot_of := ok__law_lot_of (P := l.prog) (w := w) (base := base) T (d_law_lot_of.at X G)
  have c_law_lot_drawn := ok__law_lot_drawn (P := l.prog) (w := w) (base := base) T c_law_roll c_law_pick c_law_lot_of (d_law_lot_drawn.at X G)
  have c_law_ln_other := ok__law_ln_other (P := l.prog) (w := w) (base := base) T c_law_lot_drawn c_law_lot_of (d_law_ln_other.at X G)
  have c_law_single := ok__law_single (P := l.prog) (w := w) (base := base) T c_law_factorial c_law_power c_law_times c_law_fraction c_law_binomial (d_law_single.at X G)
  have c_linked := ok_linked (P := l.prog) (w := w) (base := base) T L c_numbered (c_partings.mono (by decide)) (c_put_beside.mono (by decide)) m_linked 7
  have c_linked_in := ok_linked_in (P := l.prog) (w := w) (base := base) L M c_share_of c_init c_linked (d_linked_in.at X G)
  have c_linked_number := ok_linked_number (P := l.prog) (w := w) (base := base) c_require_linked c_linked_in (d_linked_number.at X G)
  have c_law_genus_right := ok_genus_right (P := l.prog) (w := w) (base := base) T fg c_law_roll c_law_lot_drawn c_law_ln_other c_genus_of c_swaps_of_genus c_linked_number (d_law_genus_right.at X G)
  have c_law_ones_right := ok_ones_right (P := l.prog) (w := w) (base := base) T fo c_law_roll c_law_lot_drawn c_law_ln_other c_law_single c_single_number c_rising_single_number c_linked_number (d_law_ones_right.at X G)
  exact law_fn T c_law_dice c_law_genus_right c_law_ones_right c_genus_of c_swaps_of_genus c_single_number c_rising_single_number F
end K53
/-! F0: the finite checks of linked numbers. -/
namespace K53
def lots5 (n : Nat) : List LI := (lotsM n).filter fun l => decide (l.length ≤ 5)
def okAt (many : Nat) (a b : LI) (L R : LI) : Bool :=
  let rest : Int := (many : Int) + 2 - a.length - b.length
  if rest % 2 = 0 ∧ 0 ≤ rest then decide (0 < L.getD many 0) || decide (a.sum = 1) else decide (L.getD many 0 = 0) && decide (R.getD many 0 = 0)
def chkB (n : Nat) (a : LI) : Bool := (lots5 n).all fun b =>
  let L := linkedM true 8 a.length a b
  let R := linkedM false 8 a.length a b
  (List.range 9).all fun many => okAt many a b L R
def chk (n : Nat) : Bool := (lots5 n).all fun a => chkB n a
theorem chk15 : ∀ n, n ≤ 5 → (1 ≤ n → chk n = true) := by decide +kernel
theorem chk6 : chk 6 = true := by decide +kernel
theorem chk7_len : (lots5 7).length = 13 := by decide +kernel
end K53
namespace K53
theorem chk7_0 : chkB 7 ((lots5 7).getD 0 []) = true := by decide +kernel
end K53
namespace K53
theorem chk7_1 : chkB 7 ((lots5 7).getD 1 []) = true := by decide +kernel
end K53
namespace K53
theorem chk7_2 : chkB 7 ((lots5 7).getD 2 []) = true := by decide +kernel
end K53
namespace K53
theorem chk7_3 : chkB 7 ((lots5 7).getD 3 []) = true := by decide +kernel
end K53
namespace K53
theorem chk7_4 : chkB 7 ((lots5 7).getD 4 []) = true := by decide +kernel
end K53
namespace K53
theorem chk7_5 : chkB 7 ((lots5 7).getD 5 []) = true := by decide +kernel
end K53
namespace K53
theorem chk7_6 : chkB 7 ((lots5 7).getD 6 []) = true := by decide +kernel
end K53
namespace K53
theorem chk7_7 : chkB 7 ((lots5 7).getD 7 []) = true := by decide +kernel
end K53
namespace K53
theorem chk7_8 : chkB 7 ((lots5 7).getD 8 []) = true := by decide +kernel
end K53
namespace K53
theorem chk7_9 : chkB 7 ((lots5 7).getD 9 []) = true := by decide +kernel
end K53
namespace K53
theorem chk7_10 : chkB 7 ((lots5 7).getD 10 []) = true := by decide +kernel
end K53
namespace K53
theorem chk7_11 : chkB 7 ((lots5 7).getD 11 []) = true := by decide +kernel
end K53
namespace K53
theorem chk7_12 : chkB 7 ((lots5 7).getD 12 []) = true := by decide +kernel
end K53
/-! FP: a shorter run is a prefix of a longer one. -/
namespace K53
theorem pf_getD {l : LI} {k i : Nat} (h : i ≤ k) : (l.take (k + 1)).getD i 0 = l.getD i 0 := by
  simp only [List.getD_eq_getElem?_getD, List.getElem?_take]
  rw [if_pos (by omega)]
theorem pf_set {l : LI} {k i : Nat} {x : Int} (h : k < i) : (l.set i x).take (k + 1) = l.take (k + 1) := by
  apply List.ext_getElem?
  intro j
  simp only [List.getElem?_take]
  split
  · rw [List.getElem?_set_ne (by omega)]
  · rfl
theorem pf_row1 (nums : LI) (k d : Nat) : factorRow nums true k = (factorRow nums true (k + d)).take (k + 1) := by
  unfold factorRow
  simp only [if_true]
  rw [← List.map_take, List.take_range, Nat.min_eq_left (by omega)]
theorem pf_rs {found : LI} {x : Int} {j k : Nat} (h : j < k) : rowStep (found.take (k + 1)) x j = (rowStep found x j).take (k + 1) := by
  unfold rowStep
  rw [pf_getD (by omega), pf_getD (by omega), List.take_set]
theorem pf_rows {x : Int} {k : Nat} : ∀ (js : List Nat) (found : LI), (∀ j ∈ js, j < k) → js.foldl (fun f j => rowStep f x j) (found.take (k + 1)) = (js.foldl (fun f j => rowStep f x j) found).take (k + 1)
  | [], _, _ => rfl
  | j :: r, found, h => by
    simp only [List.foldl_cons]
    rw [pf_rs (h j (List.mem_cons_self ..))]
    exact pf_rows r _ fun j hj => h j (List.mem_cons_of_mem _ hj)
theorem pf_rows2 {x : Int} {k : Nat} : ∀ (js : List Nat) (found : LI), (∀ j ∈ js, k ≤ j) → (js.foldl (fun f j => rowStep f x j) found).take (k + 1) = found.take (k + 1)
  | [], _, _ => rfl
  | j :: r, found, h => by
    simp only [List.foldl_cons]
    rw [pf_rows2 r _ fun j hj => h j (List.mem_cons_of_mem _ hj)]
    exact pf_set (by have := h j (List.mem_cons_self ..); omega)
theorem pf_rg (k d : Nat) : List.range (k + d) = List.range k ++ (List.range d).map (k + ·) := List.range_add
theorem pf_row0 (k d : Nat) : ∀ (nums found : LI), nums.foldl (fun found number => (List.range k).foldl (fun f j => rowStep f number j) found) (found.take (k + 1)) = (nums.foldl (fun found number => (List.range (k + d)).foldl (fun f j => rowStep f number j) found) found).take (k + 1)
  | [], _ => rfl
  | x :: r, found => by
    simp only [List.foldl_cons]
    rw [pf_rows _ _ fun j hj => List.mem_range.mp hj, ← pf_row0 k d r]
    congr 1
    rw [pf_rg, List.foldl_append]
    refine (pf_rows2 _ _ fun j hj => ?_).symm
    obtain ⟨i, _, rfl⟩ := List.mem_map.mp hj
    exact Nat.le_add_right ..
theorem pf_row (nums : LI) (w : Bool) (k d : Nat) : factorRow nums w k = (factorRow nums w (k + d)).take (k + 1) := by
  cases w
  · unfold factorRow
    simp only [Bool.false_eq_true, if_false]
    rw [← pf_row0 k d]
    congr 1
    rw [List.take_succ_cons, List.take_replicate, Nat.min_eq_left (by omega)]
  · exact pf_row1 nums k d
theorem pf_zip {g : Int → Int → Int} {a b : LI} {k : Nat} : List.zipWith g (a.take (k + 1)) (b.take (k + 1)) = (List.zipWith g a b).take (k + 1) := by
  rw [List.take_zipWith]
theorem pf_nums (w : Bool) (k d : Nat) (one other : LI) : numberedM w k one other = (numberedM w (k + d) one other).take (k + 1) := by
  unfold numberedM
  have key : ∀ (ps : List (LI × Int)) (found : LI), ps.foldl (fun found p => List.zipWith (fun e m => e + p.2 * m) found (factorRow p.1 w k)) (found.take (k + 1)) = (ps.foldl (fun found p => List.zipWith (fun e m => e + p.2 * m) found (factorRow p.1 w (k + d))) found).take (k + 1) := by
    intro ps
    induction ps with
    | nil => intro _; rfl
    | cons p r ih =>
      intro found
      simp only [List.foldl_cons]
      rw [pf_row p.1 w k d, pf_zip]
      exact ih _
  rw [← key]
  congr 1
  rw [List.take_replicate, Nat.min_eq_left (by omega)]
theorem pf_bs {w : Bool} {ways entry : Int} {place step k : Nat} {other found : LI} (h : place + step ≤ k) : besideStep w ways place entry (other.take (k + 1)) (found.take (k + 1)) step = (besideStep w ways place entry other found step).take (k + 1) := by
  unfold besideStep
  rw [pf_getD h, pf_getD (by omega), List.take_set]
theorem pf_bss {w : Bool} {ways entry : Int} {place k : Nat} {other : LI} : ∀ (js : List Nat) (found : LI), (∀ j ∈ js, place + j ≤ k) → js.foldl (besideStep w ways place entry (other.take (k + 1))) (found.take (k + 1)) = (js.foldl (besideStep w ways place entry other) found).take (k + 1)
  | [], _, _ => rfl
  | j :: r, found, h => by
    simp only [List.foldl_cons]
    rw [pf_bs (h j (List.mem_cons_self ..))]
    exact pf_bss r _ fun j hj => h j (List.mem_cons_of_mem _ hj)
theorem pf_bss2 {w : Bool} {ways entry : Int} {place k : Nat} {other : LI} : ∀ (js : List Nat) (found : LI), (∀ j ∈ js, k < place + j) → (js.foldl (besideStep w ways place entry other) found).take (k + 1) = found.take (k + 1)
  | [], _, _ => rfl
  | j :: r, found, h => by
    simp only [List.foldl_cons]
    rw [pf_bss2 r _ fun j hj => h j (List.mem_cons_of_mem _ hj)]
    exact pf_set (h j (List.mem_cons_self ..))
theorem pf_far {w : Bool} {ways : Int} {k n : Nat} {other : LI} : ∀ (one : LI) (place : Nat) (found : LI), k < place → (besideFrom w n ways other place one found).take (k + 1) = found.take (k + 1)
  | [], _, _, _ => rfl
  | e :: r, place, found, h => by
    unfold besideFrom
    rw [pf_far r _ _ (by omega)]
    split
    · exact pf_bss2 _ _ fun j _ => by omega
    · rfl
theorem pf_from {w : Bool} {ways : Int} {k d : Nat} {other : LI} : ∀ (one : LI) (place : Nat) (found : LI), besideFrom w k ways (other.take (k + 1)) place (one.take (k + 1 - place)) (found.take (k + 1)) = (besideFrom w (k + d) ways other place one found).take (k + 1)
  | [], place, found => by rw [List.take_nil]; rfl
  | e :: r, place, found => by
    by_cases hp : place ≤ k
    · have e1 : k + 1 - place = (k + 1 - (place + 1)) + 1 := by omega
      have e2 : k + d + 1 - place = (k + 1 - place) + d := by omega
      rw [e1, List.take_succ_cons]
      unfold besideFrom
      rw [← pf_from r (place + 1)]
      congr 1
      split
      · rw [pf_bss _ _ fun j hj => (by have := List.mem_range.mp hj; omega), e2, pf_rg, List.foldl_append]
        refine (pf_bss2 _ _ fun j hj => ?_).symm
        obtain ⟨i, _, rfl⟩ := List.mem_map.mp hj
        omega
      · rfl
    · have e1 : k + 1 - place = 0 := by omega
      rw [e1, List.take_zero, pf_far _ _ _ (by omega)]
      rfl
theorem pf_beside (w : Bool) (k d : Nat) (one other : LI) (ways : Int) : besideM w k (one.take (k + 1)) (other.take (k + 1)) ways = (besideM w (k + d) one other ways).take (k + 1) := by
  unfold besideM
  have := pf_from (w := w) (ways := ways) (k := k) (d := d) (other := other) one 0 (List.replicate (k + d + 1) 0)
  rw [← this, List.take_replicate, Nat.min_eq_left (by omega)]
  rfl
theorem pf_link (w : Bool) (k d : Nat) : ∀ (f : Nat) (one other : LI), linkedM w k f one other = (linkedM w (k + d) f one other).take (k + 1)
  | 0, one, other => pf_nums w k d one other
  | f + 1, one, other => by
    unfold linkedM
    have key : ∀ (ps : List ((LI × LI) × (LI × LI) × Int)) (found : LI), ps.foldl (fun found p => List.zipWith (fun e n => e - n) found (besideM w k (linkedM w k f p.1.1 p.1.2) (numberedM w k p.2.1.1 p.2.1.2) p.2.2)) (found.take (k + 1)) = (ps.foldl (fun found p => List.zipWith (fun e n => e - n) found (besideM w (k + d) (linkedM w (k + d) f p.1.1 p.1.2) (numberedM w (k + d) p.2.1.1 p.2.1.2) p.2.2)) found).take (k + 1) := by
      intro ps
      induction ps with
      | nil => intro _; rfl
      | cons p r ih =>
        intro found
        simp only [List.foldl_cons]
        rw [pf_link w k d f p.1.1 p.1.2, pf_nums w k d p.2.1.1 p.2.1.2, pf_beside w k d, pf_zip]
        exact ih _
    rw [pf_nums w k d one other]
    exact key _ _
theorem pf_num (w : Bool) {k : Nat} (h : k ≤ 8) (f : Nat) (one other : LI) : (linkedM w k f one other).getD k 0 = (linkedM w 8 f one other).getD k 0 := by
  obtain ⟨d, hd⟩ := Nat.le.dest h
  rw [← hd, pf_link w k d, pf_getD (Nat.le_refl _)]
end K53
/-! FO: against all ones, the finite check. -/
namespace K53
def chkO (t : Nat) (l : LI) : Bool :=
  let ones : LI := List.replicate t 1
  let k := t + l.length - 2
  decide (frac ((linkedM true 8 l.length l ones).getD k 0) (prodI l * prodI ones) = singleM l) && decide (frac ((linkedM false 8 l.length l ones).getD k 0) (prodI l * prodI ones) = risingM l)
def chkOn (t : Nat) : Bool := (lotsM t).all fun l => !decide (l.length ≤ 10 - t) || chkO t l
theorem chkO6 : ∀ t, t ≤ 6 → (1 ≤ t → chkOn t = true) := by decide +kernel
theorem fact_o : FactO := by
  intro t l h1 h6 ll hn
  have hm := lots_complete t l ll
  have hc := List.all_eq_true.mp (chkO6 t h6 h1) l hm
  have hk : t + l.length - 2 ≤ 8 := by omega
  simp only [decide_eq_true hn, Bool.not_true, Bool.false_or, chkO, Bool.and_eq_true, decide_eq_true_eq] at hc
  unfold linkNum
  rw [pf_num _ hk, pf_num _ hk]
  exact hc
end K53
/-! FG: whole genus, from the finite checks. -/
namespace K53
theorem chk7_all {l : LI} (h : l ∈ lots5 7) : chkB 7 l = true := by
  obtain ⟨i, hi, rfl⟩ := List.getElem_of_mem h
  have hi2 : i < 13 := chk7_len ▸ hi
  have e : (lots5 7)[i] = (lots5 7).getD i [] := by
    rw [List.getD_eq_getElem?_getD, List.getElem?_eq_getElem hi]
    rfl
  refine (congrArg (chkB 7) e).trans ?_
  clear e hi h
  match i, hi2 with
  | 0, _ => exact chk7_0
  | 1, _ => exact chk7_1
  | 2, _ => exact chk7_2
  | 3, _ => exact chk7_3
  | 4, _ => exact chk7_4
  | 5, _ => exact chk7_5
  | 6, _ => exact chk7_6
  | 7, _ => exact chk7_7
  | 8, _ => exact chk7_8
  | 9, _ => exact chk7_9
  | 10, _ => exact chk7_10
  | 11, _ => exact chk7_11
  | 12, _ => exact chk7_12
  | n + 13, q => omega
theorem chk_all {t : Nat} {l : LI} (h1 : 1 ≤ t) (h7 : t ≤ 7) (h : l ∈ lots5 t) : chkB t l = true := by
  by_cases h5 : t ≤ 5
  · exact List.all_eq_true.mp (chk15 t h5 h1) l h
  · by_cases h6 : t = 6
    · subst h6
      exact List.all_eq_true.mp chk6 l h
    · have : t = 7 := by omega
      subst this
      exact chk7_all h
theorem frac_pos {a b : Int} (ha : 0 < a) (hb : 0 < b) : 0 < (frac a b).1 := by
  have g := gcdI_pos (a := a) hb
  obtain ⟨c, hc⟩ := (gcdI_dvd a b).1
  show 0 < a / gcdI a b
  have e : a / gcdI a b = c := by
    conv => lhs; lhs; rw [hc]
    exact Int.mul_ediv_cancel_left _ (by omega)
  rw [e]
  apply Decidable.byContradiction
  intro h
  have : gcdI a b * c ≤ 0 := Int.mul_nonpos_of_nonneg_of_nonpos (by omega) (by omega)
  omega
theorem frac_zero {b : Int} (hb : 0 < b) : frac 0 b = (0, 1) := by
  have e : gcdI 0 b = b := by
    unfold gcdI
    simp only [Int.natAbs_zero, Nat.gcd_zero_left]
    omega
  unfold frac
  rw [e, Int.zero_ediv, Int.ediv_self (by omega)]
theorem fact_g : FactG := by
  intro t l m h1 h7 ll lm a b k hk
  have hl : l ∈ lots5 t := List.mem_filter.mpr ⟨lots_complete t l ll, decide_eq_true a⟩
  have hm : m ∈ lots5 t := List.mem_filter.mpr ⟨lots_complete t m lm, decide_eq_true b⟩
  have hc : okAt k l m (linkedM true 8 l.length l m) (linkedM false 8 l.length l m) = true :=
    List.all_eq_true.mp (List.all_eq_true.mp (chk_all h1 h7 hl) m hm) k (List.mem_range.mpr (by omega))
  have hp : 0 < prodI l * prodI m := Int.mul_pos (prod_ok ⟨t, h7, ll⟩).1 (prod_ok ⟨t, h7, lm⟩).1
  unfold OkG linkNum
  rw [pf_num _ hk, pf_num _ hk]
  unfold okAt at hc
  refine ⟨fun h => ?_, fun h => ?_⟩
  · simp only [if_pos h, Bool.or_eq_true, decide_eq_true_eq] at hc
    rcases hc with hc | hc
    · exact .inl (frac_pos hc hp)
    · exact .inr (by have := ll.sum; omega)
  · simp only [if_neg h, Bool.and_eq_true, decide_eq_true_eq] at hc
    rw [hc.1, hc.2, frac_zero hp]
    exact ⟨rfl, rfl⟩
end K53
open PySem PySem.W PyProof.Rows
set_option maxRecDepth 100000 in
set_option maxHeartbeats 0 in
theorem PySem.Challenge.cw_swapsheets_k53_whole_genus_and_all_ones_holds : PySem.Challenge.rw_swapsheets_k53_whole_genus_and_all_ones.Holds := by
  w_on; o_law; k_head; (case hw => w_witness2)
  k_fill
  refine L2.walk_of (l := PySem.Challenge.rw_swapsheets_k53_whole_genus_and_all_ones) (n := 63) (k := 19) (x := "_law_script") (CX := fun _ => L2.CX0) (sp := fun w => K53.spLaw _) rfl (by decide) rfl ⟨rfl, by decide, by decide⟩ (fun w h Y => PySem.W.kIn_of Y) ?F (fun _ _ a ns hl _ hS => ⟨a, ns, rfl, hS, hl, fun _ => rfl⟩) (fun _ _ _ _ _ h => h)
  case F =>
    intro w mg fa h KX G hmg
    refine' K53.all_mk K53.fact_g K53.fact_o KX G hmg ?d_is_whole ?d_is_integer ?d_is_within ?d_require_within ?d_fraction_in ?d_product_in ?d_power_in ?d_lots_in ?d_lots ?d_is_lot ?d_is_some_lot ?d_require_some ?d_require_both ?d_is_word ?d_require_word ?d_require_linked ?d_genus_of ?d_swaps_of_genus ?d_factorial_in ?d_members_product ?d_squares_in ?d_contents_in ?d_beads_in ?d_lot_in ?d_put_in ?d_reached_in ?d_column_in ?d_pairs_in ?d_factor_row ?d_shares_of_lot ?d_shares_with_first ?d_share_of ?d_single_number ?d_rising_single_number ?d_law_dice ?d_law_roll ?d_law_pick ?d_law_gcd ?d_law_fraction ?d_law_times ?d_law_power ?d_law_factorial ?d_law_binomial ?d_law_lot_of ?d_law_lot_drawn ?d_law_ln_other ?d_law_single ?d_linked_in ?d_law_genus_right ?d_law_ones_right ?d_law ?d_linked_number ?aC ?m_put_beside ?m_partings ?m_init ?m_numbered ?m_linked ?sl0 ?sl1 ?sl2 ?sl3 ?sl4 ?pg ?ic ?po ?sa ?mk ?kc ?z_isinstance ?z_int ?z_bool ?z_str ?z_tuple ?z_list ?z_all ?z_sum ?z_zip ?z_range ?z_enumerate ?z_len ?z_sorted ?z_set ?z_max ?z_min ?z_abs ?z_gcd ?z_comb ?k_BOUND ?k_MAX_SUM ?k_MAX_ENDS ?k_MAX_LINKED ?k_MOST_LINKED ?k_MOST_GENUS ?k_ALL ?k_RISING ?k_WORDS
    (case d_is_whole => refine' K53.def0 ?a ?l ?c ?k; (case a => k_is); (case l => k_is); (case c => k_is); (case k => k_is))
    (case d_is_integer => refine' K53.def0 ?a ?l ?c ?k; (case a => k_is); (case l => k_is); (case c => k_is); (case k => k_is))
    (case d_is_within => refine' K53.def0 ?a ?l ?c ?k; (case a => k_is); (case l => k_is); (case c => k_is); (case k => k_is))
    (case d_require_within => refine' K53.def0 ?a ?l ?c ?k; (case a => k_is); (case l => k_is); (case c => k_is); (case k => k_is))
    (case d_fraction_in => refine' K53.def0 ?a ?l ?c ?k; (case a => k_is); (case l => k_is); (case c => k_is); (case k => k_is))
    (case d_product_in => refine' K53.def0 ?a ?l ?c ?k; (case a => k_is); (case l => k_is); (case c => k_is); (case k => k_is))
    (case d_power_in => refine' K53.def0 ?a ?l ?c ?k; (case a => k_is); (case l => k_is); (case c => k_is); (case k => k_is))
    (case d_lots_in => refine' K53.def0 ?a ?l ?c ?k; (case a => k_is); (case l => k_is); (case c => k_is); (case k => k_is))
    (case d_lots => refine' K53.def0 ?a ?l ?c ?k; (case a => k_is); (case l => k_is); (case c => k_is); (case k => k_is))
    (case d_is_lot => refine' K53.def0 ?a ?l ?c ?k; (case a => k_is); (case l => k_is); (case c => k_is); (case k => k_is))
    (case d_is_some_lot => refine' K53.def0 ?a ?l ?c ?k; (case a => k_is); (case l => k_is); (case c => k_is); (case k => k_is))
    (case d_require_some => refine' K53.def0 ?a ?l ?c ?k; (case a => k_is); (case l => k_is); (case c => k_is); (case k => k_is))
    (case d_require_both => refine' K53.def0 ?a ?l ?c ?k; (case a => k_is); (case l => k_is); (case c => k_is); (case k => k_is))
    (case d_is_word => refine' K53.def0 ?a ?l ?c ?k; (case a => k_is); (case l => k_is); (case c => k_is); (case k => k_is))
    (case d_require_word => refine' K53.def0 ?a ?l ?c ?k; (case a => k_is); (case l => k_is); (case c => k_is); (case k => k_is))
    (case d_require_linked => refine' K53.def0 ?a ?l ?c ?k; (case a => k_is); (case l => k_is); (case c => k_is); (case k => k_is))
    (case d_genus_of => refine' K53.def0 ?a ?l ?c ?k; (case a => k_is); (case l => k_is); (case c => k_is); (case k => k_is))
    (case d_swaps_of_genus => refine' K53.def0 ?a ?l ?c ?k; (case a => k_is); (case l => k_is); (case c => k_is); (case k => k_is))
    (case d_factorial_in => refine' K53.def0 ?a ?l ?c ?k; (case a => k_is); (case l => k_is); (case c => k_is); (case k => k_is))
    (case d_members_product => refine' K53.def0 ?a ?l ?c ?k; (case a => k_is); (case l => k_is); (case c => k_is); (case k => k_is))
    (case d_squares_in => refine' K53.def0 ?a ?l ?c ?k; (case a => k_is); (case l => k_is); (case c => k_is); (case k => k_is))
    (case d_contents_in => refine' K53.def0 ?a ?l ?c ?k; (case a => k_is); (case l => k_is); (case c => k_is); (case k => k_is))
    (case d_beads_in => refine' K53.def0 ?a ?l ?c ?k; (case a => k_is); (case l => k_is); (case c => k_is); (case k => k_is))
    (case d_lot_in => refine' K53.def0 ?a ?l ?c ?k; (case a => k_is); (case l => k_is); (case c => k_is); (case k => k_is))
    (case d_put_in => refine' K53.def0 ?a ?l ?c ?k; (case a => k_is); (case l => k_is); (case c => k_is); (case k => k_is))
    (case d_reached_in => refine' K53.def0 ?a ?l ?c ?k; (case a => k_is); (case l => k_is); (case c => k_is); (case k => k_is))
    (case d_column_in => refine' K53.def0 ?a ?l ?c ?k; (case a => k_is); (case l => k_is); (case c => k_is); (case k => k_is))
    (case d_pairs_in => refine' K53.def0 ?a ?l ?c ?k; (case a => k_is); (case l => k_is); (case c => k_is); (case k => k_is))
    (case d_factor_row => refine' K53.def0 ?a ?l ?c ?k; (case a => k_is); (case l => k_is); (case c => k_is); (case k => k_is))
    (case d_shares_of_lot => refine' K53.def0 ?a ?l ?c ?k; (case a => k_is); (case l => k_is); (case c => k_is); (case k => k_is))
    (case d_shares_with_first => refine' K53.def0 ?a ?l ?c ?k; (case a => k_is); (case l => k_is); (case c => k_is); (case k => k_is))
    (case d_share_of => refine' K53.def0 ?a ?l ?c ?k; (case a => k_is); (case l => k_is); (case c => k_is); (case k => k_is))
    (case d_single_number => refine' K53.def0 ?a ?l ?c ?k; (case a => k_is); (case l => k_is); (case c => k_is); (case k => k_is))
    (case d_rising_single_number => refine' K53.def0 ?a ?l ?c ?k; (case a => k_is); (case l => k_is); (case c => k_is); (case k => k_is))
    (case d_law_dice => refine' K53.def0 ?a ?l ?c ?k; (case a => k_is); (case l => k_is); (case c => k_is); (case k => k_is))
    (case d_law_roll => refine' K53.def0 ?a ?l ?c ?k; (case a => k_is); (case l => k_is); (case c => k_is); (case k => k_is))
    (case d_law_pick => refine' K53.def0 ?a ?l ?c ?k; (case a => k_is); (case l => k_is); (case c => k_is); (case k => k_is))
    (case d_law_gcd => refine' K53.def0 ?a ?l ?c ?k; (case a => k_is); (case l => k_is); (case c => k_is); (case k => k_is))
    (case d_law_fraction => refine' K53.def0 ?a ?l ?c ?k; (case a => k_is); (case l => k_is); (case c => k_is); (case k => k_is))
    (case d_law_times => refine' K53.def0 ?a ?l ?c ?k; (case a => k_is); (case l => k_is); (case c => k_is); (case k => k_is))
    (case d_law_power => refine' K53.def0 ?a ?l ?c ?k; (case a => k_is); (case l => k_is); (case c => k_is); (case k => k_is))
    (case d_law_factorial => refine' K53.def0 ?a ?l ?c ?k; (case a => k_is); (case l => k_is); (case c => k_is); (case k => k_is))
    (case d_law_binomial => refine' K53.def0 ?a ?l ?c ?k; (case a => k_is); (case l => k_is); (case c => k_is); (case k => k_is))
    (case d_law_lot_of => refine' K53.def0 ?a ?l ?c ?k; (case a => k_is); (case l => k_is); (case c => k_is); (case k => k_is))
    (case d_law_lot_drawn => refine' K53.def0 ?a ?l ?c ?k; (case a => k_is); (case l => k_is); (case c => k_is); (case k => k_is))
    (case d_law_ln_other => refine' K53.def0 ?a ?l ?c ?k; (case a => k_is); (case l => k_is); (case c => k_is); (case k => k_is))
    (case d_law_single => refine' K53.def0 ?a ?l ?c ?k; (case a => k_is); (case l => k_is); (case c => k_is); (case k => k_is))
    (case d_linked_in => refine' K53.def0 ?a ?l ?c ?k; (case a => k_is); (case l => k_is); (case c => k_is); (case k => k_is))
    (case d_law_genus_right => refine' K53.def0 ?a ?l ?c ?k; (case a => k_is); (case l => k_is); (case c => k_is); (case k => k_is))
    (case d_law_ones_right => refine' K53.def0 ?a ?l ?c ?k; (case a => k_is); (case l => k_is); (case c => k_is); (case k => k_is))
    (case d_law => refine' K53.def0 ?a ?l ?c ?k; (case a => k_is); (case l => k_is); (case c => k_is); (case k => k_is))
    (case d_linked_number => refine' K53.defw0 ?a ?l ?c ?k ?n; (case a => k_is); (case l => k_is); (case c => k_is); (case k => k_is); (case n => k_is))
    (case aC => k_is)
    (case m_put_beside => refine' K53.met0 ?a ?i ?l ?c ?k; (case a => k_is); (case i => k_is); (case l => k_is); (case c => k_is); (case k => k_is))
    (case m_partings => refine' K53.met0 ?a ?i ?l ?c ?k; (case a => k_is); (case i => k_is); (case l => k_is); (case c => k_is); (case k => k_is))
    (case m_init => refine' K53.met0 ?a ?i ?l ?c ?k; (case a => k_is); (case i => k_is); (case l => k_is); (case c => k_is); (case k => k_is))
    (case m_numbered => refine' K53.met0 ?a ?i ?l ?c ?k; (case a => k_is); (case i => k_is); (case l => k_is); (case c => k_is); (case k => k_is))
    (case m_linked => refine' K53.met0 ?a ?i ?l ?c ?k; (case a => k_is); (case i => k_is); (case l => k_is); (case c => k_is); (case k => k_is))
    (case sl0 => refine' K53.slot0 ?a ?g ?t ?y ?x (by decide); (case a => k_is); (case g => k_is); (case t => k_is); (case y => k_is); (case x => k_is))
    (case sl1 => refine' K53.slot0 ?a ?g ?t ?y ?x (by decide); (case a => k_is); (case g => k_is); (case t => k_is); (case y => k_is); (case x => k_is))
    (case sl2 => refine' K53.slot0 ?a ?g ?t ?y ?x (by decide); (case a => k_is); (case g => k_is); (case t => k_is); (case y => k_is); (case x => k_is))
    (case sl3 => refine' K53.slot0 ?a ?g ?t ?y ?x (by decide); (case a => k_is); (case g => k_is); (case t => k_is); (case y => k_is); (case x => k_is))
    (case sl4 => refine' K53.slot0 ?a ?g ?t ?y ?x (by decide); (case a => k_is); (case g => k_is); (case t => k_is); (case y => k_is); (case x => k_is))
    (case pg => k_is)
    (case ic => k_is)
    (case po => k_is)
    (case sa => k_is)
    (case mk => k_is)
    (case kc => k_is)
    (case z_isinstance => k_is)
    (case z_int => k_is)
    (case z_bool => k_is)
    (case z_str => k_is)
    (case z_tuple => k_is)
    (case z_list => k_is)
    (case z_all => k_is)
    (case z_sum => k_is)
    (case z_zip => k_is)
    (case z_range => k_is)
    (case z_enumerate => k_is)
    (case z_len => k_is)
    (case z_sorted => k_is)
    (case z_set => k_is)
    (case z_max => k_is)
    (case z_min => k_is)
    (case z_abs => k_is)
    (case z_gcd => k_is)
    (case z_comb => k_is)
    (case k_BOUND => refine' K53.conI ?a; (case a => k_is))
    (case k_MAX_SUM => refine' K53.conI ?a; (case a => k_is))
    (case k_MAX_ENDS => refine' K53.conI ?a; (case a => k_is))
    (case k_MAX_LINKED => refine' K53.conI ?a; (case a => k_is))
    (case k_MOST_LINKED => refine' K53.conI ?a; (case a => k_is))
    (case k_MOST_GENUS => refine' K53.conI ?a; (case a => k_is))
    (case k_ALL => refine' K53.conS ?a; (case a => k_is))
    (case k_RISING => refine' K53.conS ?a; (case a => k_is))
    (case k_WORDS => refine' K53.words0 ?a ?l; (case a => k_is); (case l => k_is))
