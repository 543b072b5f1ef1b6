import PyProof.Rows.All
import HandS.ForMost
import HandS.Iter
import HandS.Zip
import HandS.List
import HandS.Wide
import HandS.WideBits
import HandS.WideMore
import HandS.Flow
import HandS.Style
import HandS.Gcd
import HandS.IsInst
import HandS.TupAny
import HandS.TupMul
import HandS.Rev
import HandS.RevRange
import HandS.SortInts
import HandS.Conv
import HandS.AnyAll
import HandS.TupSets
import HandS.Flt
import KE.DataCmp
import HandS.NoneIn
import HandS.SetFor
import HandS.Strs
import KE.DataEq
import HandS.GenList
import HandS.EndOwn
import KE.DataMinMax
import KE.SortData
import PyProof.Claim2Refuses
import PySem.Challenge.RW_gaphouse_k40_whole_gaps_of_gluings
set_option Elab.async false
set_option linter.all false
set_option maxRecDepth 100000
/-! Tuples walked: enumerate, max, min, sum. -/
namespace PySem
open Sem (wp)
open AutoSeq1 (wpAny_loadPart')
section
variable {prog : Program} {w : World} {A : Around} {E : Value → Shared → Prop} {s : Shared} {l : Addr} {xs : Array (Int × Tok)}
theorem gt_iter {items : Array Value} {Q : Value → Shared → Prop} (hl : s.heap.IsTuple l items)
    (h : ∀ s₂ : Shared, s₂ = { s with heap := s.heap.push { cls := .type "tuple_iterator", data := .fields #[.ref l, .int 0 0] } } →
      (s₂.heap.IsTupleIter s.heap.objs.size l 0 ∧ s₂.heap.IsTuple l items) → (∀ b ∈ [s.heap.objs.size, l], b < s₂.heap.objs.size) → l ≠ s.heap.objs.size → Q (.ref s.heap.objs.size) s₂) :
    wpAny (model prog w) A (pyIter (.ref l)) Q E s := by
  have hlt : l < s.heap.objs.size := by obtain ⟨_, e, _⟩ := hl; exact Heap.lt_size e
  refine wpAny_pyIter_tuple hl (h _ rfl ⟨⟨_, Heap.get?_push_size _ rfl, rfl, rfl⟩, hl.push _⟩ (fun b hb => ?_) (Nat.ne_of_lt hlt))
  show b < (s.heap.push _).objs.size
  rw [Heap.size_push]
  rcases List.mem_cons.mp hb with rfl | hb
  · exact Nat.lt_succ_self _
  · rw [List.mem_singleton.mp hb]
    exact Nat.lt_succ_of_lt hlt
theorem gt_old {h' : Heap} (hk : ∀ b o, b ∉ [s.heap.objs.size] → (s.heap.push { cls := .type "tuple_iterator", data := .fields #[.ref l, .int 0 0] }).get? b = some o → h'.get? b = some o) :
    ∀ b o, s.heap.get? b = some o → h'.get? b = some o := fun b o e => by
  refine hk b o (fun hm => ?_) (Heap.get?_push_of_some _ e)
  rcases List.mem_cons.mp hm with e1 | hm
  · exact absurd (e1 ▸ Heap.lt_size e) (Nat.lt_irrefl _)
  · cases hm
theorem gt_max {Q : Value → Shared → Prop} (hh : A.handled = none) (hl : s.heap.IsTuple l (intItems xs)) (hne : 0 < xs.size)
    (h : ∀ v h' tk, (intItems xs)[argBest (fun i j => decide (numAt xs i > numAt xs j)) (xs.size - 1)]? = some v → (∀ b o, s.heap.get? b = some o → h'.get? b = some o) → Q v { s with heap := h', toks := tk }) :
    wpAny (model prog w) A (call (.builtin "max") [.ref l]) Q E s := by
  refine call_max_walk (gt_iter hl fun s₂ e st hfp hlI => ?_)
  subst e
  refine ⟨_, _, _, _, _, _, _, rfl, Walks.tuple (A := A.in1) hh _ l hlI (intItems xs), st, hfp, by simpa [intItems] using hne, CmpOf.ints_gt (numAt xs) (fun _ _ => intItems_at), fun v h' tk hP hk => ?_⟩
  exact h v h' tk (by simpa [intItems] using hP) (gt_old hk)
theorem gt_min {Q : Value → Shared → Prop} (hh : A.handled = none) (hl : s.heap.IsTuple l (intItems xs)) (hne : 0 < xs.size)
    (h : ∀ v h' tk, (intItems xs)[argBest (fun i j => decide (numAt xs i < numAt xs j)) (xs.size - 1)]? = some v → (∀ b o, s.heap.get? b = some o → h'.get? b = some o) → Q v { s with heap := h', toks := tk }) :
    wpAny (model prog w) A (call (.builtin "min") [.ref l]) Q E s := by
  refine call_min_walk (gt_iter hl fun s₂ e st hfp hlI => ?_)
  subst e
  refine ⟨_, _, _, _, _, _, _, rfl, Walks.tuple (A := A.in1) hh _ l hlI (intItems xs), st, hfp, by simpa [intItems] using hne, CmpOf.ints_lt (numAt xs) (fun _ _ => intItems_at), fun v h' tk hP hk => ?_⟩
  exact h v h' tk (by simpa [intItems] using hP) (gt_old hk)
theorem gt_sum {Q : Value → Shared → Prop} (hh : A.handled = none) (hl : s.heap.IsTuple l (intItems xs))
    (h : ∀ h' tk t', (∀ b o, s.heap.get? b = some o → h'.get? b = some o) → Q (.int (preSum (numAt xs) xs.size) t') { s with heap := h', toks := tk }) :
    wpAny (model prog w) A (call (.builtin "sum") [.ref l]) Q E s := by
  refine call_sum_walkG (gt_iter hl fun s₂ e st hfp hlI => ?_)
  subst e
  refine ⟨_, _, _, _, _, _, numAt xs, rfl, Walks.tuple (A := A.in1) hh _ l hlI (intItems xs), st, hfp, (fun _ _ => intItems_at), fun h' tk t' hk => ?_⟩
  have := h h' tk t' (gt_old hk)
  simpa [intItems] using this
theorem gt_enum_new (l : Addr) (items : Array Value) (n : Nat) (dct : Option Addr) (sl : Array (Option Value)) :
    Meets (Builtin.«enumerate.__new__» ⟨[.type "enumerate", .ref l], []⟩) (fun _ R s => s.heap.get? l = some { cls := .type "tuple", dict := dct, data := .seq items n, slots := sl } ∧
      R (.ok (.ret (.ref (s.heap.push { cls := .type "tuple_iterator", data := .fields #[.ref l, .int 0 0] }).objs.size)))
        { s with heap := (s.heap.push { cls := .type "tuple_iterator", data := .fields #[.ref l, .int 0 0] }).push { cls := .type "enumerate", data := .fields #[.none, .bool false, .ref s.heap.objs.size, rawInt 0, .none, .none] } }) :=
  .of_wp fun prog w A R s h => by
    obtain ⟨hp, g, d, tk, os⟩ := s; obtain ⟨hl, h⟩ := h
    have hsub := sub_enumerate
    have hL : Heap.IsTuple (Shared.heap ⟨hp, g, d, tk, os⟩) l items := ⟨_, hl, rfl, n, rfl⟩
    wp_walk using wpAny_loadPart' hl
    refine wpAny_stack_any fun st => wpAny_pure ?_
    split
    · rename_i c _ _ _ _ _
      cases (c == Value.type "enumerate")
      · wp_walk using wpAny_loadPart' hl, wpAny_pyIter_tuple hL
        exact ⟨_, rfl, h⟩
      · wp_walk using wpAny_loadPart' hl, wpAny_pyIter_tuple hL
        exact ⟨_, rfl, h⟩
    · wp_walk using wpAny_loadPart' hl, wpAny_pyIter_tuple hL
      exact ⟨_, rfl, h⟩
theorem gt_draws (hh : A.handled = none) (it l : Addr) (hne : l ≠ it) (items : Array Value) :
    Draws prog w A it [it, l] items.size (fun i v => items[i]? = some v) (fun i h => h.IsTupleIter it l i ∧ h.IsTuple l items) where
  live := fun _ _ st => let ⟨o, ho, _⟩ := st.1; ⟨o, ho⟩
  frame := fun _ _ _ st hk => ⟨st.1.at fun o e => hk it (by simp) o e, st.2.at fun o e => hk l (by simp) o e⟩
  item := fun i s Q E hi st hQ => by
    refine RZ.nextOf_tuple_item st.1 st.2 (x := items[i]) (by simp [hi]) fun h' hit' hs' => ?_
    exact hQ _ h' s.toks (by simp [hi]) ⟨hit', st.2.extBut hs'.extBut hne⟩ hs'
  done := fun s Q E st hE => RZ.nextOf_tuple_end hh st.1 st.2 (by simp) hE
theorem gt_call_enum {items : Array Value} {Q : Value → Shared → Prop} (hL : s.heap.IsTuple l items)
    (h : ∀ h', IsEnum h' (s.heap.objs.size + 1) s.heap.objs.size 0 .none → h'.IsTupleIter s.heap.objs.size l 0 → h'.objs.size = s.heap.objs.size + 2 →
      (∀ b o, s.heap.get? b = some o → h'.get? b = some o) → Q (.ref (s.heap.objs.size + 1)) { s with heap := h' }) :
    wpAny (model prog w) A (call (.type "enumerate") [.ref l]) Q E s := by
  obtain ⟨⟨c, dct, dt, sl⟩, hl, hc, n, hd⟩ := hL
  replace hc : c = .type "tuple" := hc
  replace hd : dt = .seq items n := hd
  subst hc hd
  refine callType_new F.called_enumerate (by decide) (F.typeCall_enumerate_1 _) (F.newCall_enumerate_1 _) (fun obj => F.args_object_init_2 obj _) F.entry_enumerate_new
    (gt_enum_new l items n dct sl) ⟨hl, ?_⟩
  have hz : (s.heap.push { cls := .type "tuple_iterator", data := .fields #[.ref l, .int 0 0] }).objs.size = s.heap.objs.size + 1 := Heap.size_push ..
  show _ ∧ _
  rw [hz]
  have he : IsEnum ((s.heap.push { cls := .type "tuple_iterator", data := .fields #[.ref l, .int 0 0] }).push
      { cls := .type "enumerate", data := .fields #[.none, .bool false, .ref s.heap.objs.size, rawInt 0, .none, .none] }) (s.heap.objs.size + 1) s.heap.objs.size 0 .none := by
    have := Heap.get?_push_size (s.heap.push { cls := .type "tuple_iterator", data := .fields #[.ref l, .int 0 0] })
      (o := { cls := .type "enumerate", data := .fields #[.none, .bool false, .ref s.heap.objs.size, rawInt 0, .none, .none] }) rfl
    rw [hz] at this; exact this
  refine ⟨⟨_, he, rfl⟩, h _ he ⟨_, Heap.get?_push_of_some _ (Heap.get?_push_size _ rfl), rfl, rfl⟩ (by rw [Heap.size_push, hz]) fun b o x => Heap.get?_push_of_some _ (Heap.get?_push_of_some _ x)⟩
end
end PySem
namespace G
open PySem PySem.Spec PyProof.Rows L2
section
variable {prog : Program} {w : World} {A : Around} {E : Value → Shared → Prop} {s : Shared} {l : Addr} {its : List Value} {ns : List Int} {Q : Value → Shared → Prop}
theorem sum_rawT (hh : A.handled = none) (hl : s.heap.IsTuple l its.toArray) (hi : IntsAre its ns)
    (h : ∀ h' tk t', (∀ b o, s.heap.get? b = some o → h'.get? b = some o) → Q (.int ns.sum t') { s with heap := h', toks := tk }) : wpAny (model prog w) A (call (.builtin "sum") [.ref l]) Q E s := by
  obtain ⟨xs, e⟩ := hi.allInts.items
  have hn : numsOf (intItems xs).toList = ns := by rw [← e]; exact hi.numsOf
  rw [nums_intItems] at hn
  rw [e] at hl
  refine PySem.gt_sum hh hl fun h' tk t' hk => ?_
  have := h h' tk t' hk
  rw [preSum_eq, List.take_of_length_le (by simp), hn]; exact this
theorem max_rawT (hh : A.handled = none) (hl : s.heap.IsTuple l its.toArray) (hi : IntsAre its ns) (hne : 0 < ns.length)
    (h : ∀ h' tk M t', (∀ b o, s.heap.get? b = some o → h'.get? b = some o) → M ∈ ns → (∀ a, a ∈ ns → a ≤ M) → Q (.int M t') { s with heap := h', toks := tk }) : wpAny (model prog w) A (call (.builtin "max") [.ref l]) Q E s := by
  obtain ⟨xs, e⟩ := hi.allInts.items
  have hn : numsOf (intItems xs).toList = ns := by rw [← e]; exact hi.numsOf
  rw [nums_intItems] at hn
  subst hn
  rw [e] at hl
  have hsz : 0 < xs.size := by simpa using hne
  refine PySem.gt_max hh hl hsz fun v h' tk hv hk => ?_
  obtain ⟨t, rfl⟩ := intItems_at hv
  obtain ⟨h1, h2⟩ := argBest_gt (numAt xs) (xs.size - 1)
  refine h h' tk _ t hk ?_ fun a ha => ?_
  · rw [numAt_eq]; exact PySem.getD_mem (by rw [List.length_map, Array.length_toList]; omega)
  · obtain ⟨j, hj, rfl⟩ := mem_getD ha
    rw [List.length_map, Array.length_toList] at hj
    rw [← numAt_eq]; exact h2 j (by omega)
theorem min_rawT (hh : A.handled = none) (hl : s.heap.IsTuple l its.toArray) (hi : IntsAre its ns) (hne : 0 < ns.length)
    (h : ∀ h' tk M t', (∀ b o, s.heap.get? b = some o → h'.get? b = some o) → M ∈ ns → (∀ a, a ∈ ns → M ≤ a) → Q (.int M t') { s with heap := h', toks := tk }) : wpAny (model prog w) A (call (.builtin "min") [.ref l]) Q E s := by
  obtain ⟨xs, e⟩ := hi.allInts.items
  have hn : numsOf (intItems xs).toList = ns := by rw [← e]; exact hi.numsOf
  rw [nums_intItems] at hn
  subst hn
  rw [e] at hl
  have hsz : 0 < xs.size := by simpa using hne
  refine PySem.gt_min hh hl hsz fun v h' tk hv hk => ?_
  obtain ⟨t, rfl⟩ := intItems_at hv
  obtain ⟨h1, h2⟩ := argBest_lt (numAt xs) (xs.size - 1)
  refine h h' tk _ t hk ?_ fun a ha => ?_
  · rw [numAt_eq]; exact PySem.getD_mem (by rw [List.length_map, Array.length_toList]; omega)
  · obtain ⟨j, hj, rfl⟩ := mem_getD ha
    rw [List.length_map, Array.length_toList] at hj
    rw [← numAt_eq]; exact h2 j (by omega)
end
/-- ints at a, in a list or in a tuple -/
def SqA (K : PySem.W.Frag) (H : Hp) (a : Addr) (xs : List V) : Prop := SqL K H a xs ∨ SqT K H a xs
def rSumA (K : PySem.W.Frag) : List V → Hp → VK → Prop := fun vs H Q => ∃ (a : Addr) (ns : List Int), vs = [V.ref a] ∧ SqA K H a (ns.map V.int) ∧ Q (.int ns.sum) H
def rMaxA (K : PySem.W.Frag) : List V → Hp → VK → Prop := fun vs H Q => ∃ (a : Addr) (ns : List Int), vs = [V.ref a] ∧ SqA K H a (ns.map V.int) ∧ 0 < ns.length ∧ ∀ m, m ∈ ns → (∀ y, y ∈ ns → y ≤ m) → Q (.int m) H
def rMinA (K : PySem.W.Frag) : List V → Hp → VK → Prop := fun vs H Q => ∃ (a : Addr) (ns : List Int), vs = [V.ref a] ∧ SqA K H a (ns.map V.int) ∧ 0 < ns.length ∧ ∀ m, m ∈ ns → (∀ y, y ∈ ns → m ≤ y) → Q (.int m) H
section
variable {X : Cx}
theorem cr_sumA (hc : X.calm = true) : CallR X (.builtin "sum") (rSumA X.K) := by
  intro pins s σ H vs us Q I r h
  obtain ⟨a, ns, rfl, hs | hs, q⟩ := h
  · exact cr_sum hc pins s σ H _ us Q I r ⟨a, ns, rfl, hs, q⟩
  · obtain ⟨its, rv, hl, _⟩ := I.tuple hs
    rw [Vals.ref1 r]
    exact sum_rawT (I.ok.hd hc) hl rv.ints fun h' tk t' hk => ⟨.int _, H, I.kept hk, ⟨_, rfl⟩, q⟩
theorem cr_maxA (hc : X.calm = true) : CallR X (.builtin "max") (rMaxA X.K) := by
  intro pins s σ H vs us Q I r h
  obtain ⟨a, ns, rfl, hs | hs, hne, q⟩ := h
  · exact cr_max hc pins s σ H _ us Q I r ⟨a, ns, rfl, hs, hne, q⟩
  · obtain ⟨its, rv, hl, _⟩ := I.tuple hs
    rw [Vals.ref1 r]
    exact max_rawT (I.ok.hd hc) hl rv.ints hne fun h' tk m t' hk h1 h2 => ⟨.int _, H, I.kept hk, ⟨_, rfl⟩, q m h1 h2⟩
theorem cr_minA (hc : X.calm = true) : CallR X (.builtin "min") (rMinA X.K) := by
  intro pins s σ H vs us Q I r h
  obtain ⟨a, ns, rfl, hs | hs, hne, q⟩ := h
  · exact cr_min hc pins s σ H _ us Q I r ⟨a, ns, rfl, hs, hne, q⟩
  · obtain ⟨its, rv, hl, _⟩ := I.tuple hs
    rw [Vals.ref1 r]
    exact min_rawT (I.ok.hd hc) hl rv.ints hne fun h' tk m t' hk h1 h2 => ⟨.int _, H, I.kept hk, ⟨_, rfl⟩, q m h1 h2⟩
end
/-! ### enumerate(tuple) -/
def IteT (K : PySem.W.Frag) (a : Addr) : It :=
  ⟨fun i H => ∃ (xs : List V) (x : V), SqT K H a xs ∧ xs[i]? = some x, fun i H v H' => ∃ T x, v = .ref T ∧ H T = none ∧ H' = upd H T (.tup [.int (i : Nat), x]) ∧ ∀ xs, SqT K H a xs → xs[i]? = some x, fun i H => ∃ xs : List V, SqT K H a xs ∧ xs.length ≤ i⟩
theorem turn_enumT {P : Program} {w : World} {K : PySem.W.Frag} {elts : List Expr} {kk : Nat} {tpos : Pos} (a e it : Addr) :
    Turn P w K (.Tuple elts kk tpos) (IteT K a) [e, it] e (fun i h => (∃ old, IsEnum h e it ((i : Nat) : Int) old) ∧ h.IsTupleIter it a i ∧ e ≠ it ∧ e ≠ a ∧ a ≠ it) where
  mem := by simp
  obj := fun i h st b hb => by
    obtain ⟨⟨old, he⟩, ⟨o, ho, hc, hd⟩, _⟩ := st
    have e' : b = e ∨ b = it := by simpa using hb
    rcases e' with z | z
    · rw [z]; exact ⟨_, he, fun v q => nomatch q⟩
    · rw [z]; exact ⟨o, ho, fun v q => by rw [hd] at q; cases q⟩
  keep := fun i h h' st k => let ⟨⟨old, he⟩, hi, hne⟩ := st; ⟨⟨old, k e (by simp) _ he⟩, hi.at fun o q => k it (by simp) o q, hne⟩
  item := by
    intro X hP hw hK hc i pins s σ H E I hf st hg
    subst hP hw hK
    obtain ⟨⟨old, he⟩, hit, hne, hea, hai⟩ := st
    obtain ⟨xs, x, hq, hx⟩ := hg
    obtain ⟨its, rv, p, hz⟩ := I.tuple hq
    obtain ⟨u, hu, ru⟩ := rv.get hx
    have hel : e < s.heap.objs.size := Heap.lt_size he
    have hil : it < s.heap.objs.size := by obtain ⟨_, q, _⟩ := hit; exact Heap.lt_size q
    have hlt : i < its.toArray.size := by
      have := (List.getElem?_eq_some_iff.mp hu).1
      simpa using this
    refine wpAny_pyNext_enum_itemD (PySem.gt_draws (A := X.A.in1) (I.ok.hd hc) it a hai its.toArray) he ⟨hit, p⟩ hlt hne (fun z => by
      rcases List.mem_cons.mp z with z | z
      · exact hne z
      · exact hea (List.mem_singleton.mp z)) fun x' h' tk hPx ho hst hT hsz hk => ?_
    have ex : x' = u := by
      rw [List.getElem?_toArray, hu] at hPx
      exact (Option.some.inj hPx).symm
    subst ex
    refine ⟨_, rfl, wpAny_letOwnedTupleGo_enum (s := { s with heap := h', toks := tk + 1 }) ho fun h'' he' sb => ?_⟩
    have hT2 : h''.get? s.heap.objs.size = some { cls := .type "tuple", data := .seq #[.int i tk, x'] } := (sb.2 _ (Nat.ne_of_gt hel)).trans hT
    have new : ObjOk X.prog X.w (upd H s.heap.objs.size (.tup [.int (i : Nat), x])) h'' s.heap.objs.size (.tup [.int (i : Nat), x]) :=
      ⟨by show 2 ≤ sizeLine; decide, [.int i tk, x'], .cons ⟨_, rfl⟩ (.cons ru .nil), ⟨_, hT2, rfl, _, rfl⟩⟩
    have I1 : Inv X pins σ (upd H s.heap.objs.size (.tup [.int (i : Nat), x])) { s with heap := h'', toks := tk + 1 } :=
      I.turnedNew (ch := [e, it]) (fun b ob hb q => (sb.2 b (fun z => hb (by simp [z]))).trans (hk b ob (fun z => hb (by simp [z])) (fun z => hb (by simp [z])) q)) hf (Nat.le_refl _) new
    refine ⟨.ref s.heap.objs.size, _, I1, rfl, ⟨_, x, rfl, I.hok.fresh (Nat.le_refl _), rfl, fun ys hy => by rw [I.tuple_inj hy hq]; exact hx⟩, ⟨⟨x', ?_⟩, hst.1.at fun o q => (sb.2 it (Ne.symm hne)).trans q, hne, hea, hai⟩, fun b hb => ?_⟩
    · have e1 : ((i + 1 : Nat) : Int) = (i : Int) + 1 := by omega
      rw [e1]; exact he'
    · have hb' : b < s.heap.objs.size := by
        have e' : b = e ∨ b = it := by simpa using hb
        rcases e' with z | z
        · rw [z]; exact hel
        · rw [z]; exact hil
      rw [upd_ne (Nat.ne_of_lt hb')]
      exact (hf b hb).1
  done := by
    intro X hP hw hK hc i pins s σ H E I hf st hg
    subst hP hw hK
    obtain ⟨⟨old, he⟩, hit, hne, hea, hai⟩ := st
    obtain ⟨xs, hq, hx⟩ := hg
    obtain ⟨its, rv, p, hz⟩ := I.tuple hq
    obtain ⟨f0, f1, f2, f3, f4, f5⟩ := hf it (by simp)
    have hl := rv.length
    have hT : s.TypeIs (.ref e) "enumerate" := ⟨_, he, rfl⟩
    unfold pyNext
    refine wpAny_bind (wpAny_attempt (wpAny_callSpecial?_slot (name := Str.ofString "__next__") hT F.slot_enumerate_next
      (wpAny_call_entry F.slot_enumerate_next hT F.entry_enumerate_next ?_ (F.args_enumerate_next_1 _))))
    show wpAny _ _ (field (.ref e) 2 >>= _) _ _ _
    refine wpAny_bind (wpAny_field he rfl (x := .ref it) rfl ?_)
    refine wpAny_bind (RZ.nextOf_tuple_end (I.ok.hd hc) hit p (by simp; omega) fun h' x he' hx' => ?_)
    obtain ⟨o, ho, hcl⟩ := hx'
    refine wpAny_bind (wpAny_isInstance (T := "StopIteration") (b := true) ⟨o, ho, hcl⟩ isSubtype_stop ?_)
    exact wpAny_pure ⟨rfl, I.turned (t' := s.toks) (fun b o hb q => he' b o hb q) f0 f1 f3 f4 f5⟩
  self := fun A i s Q E st h => let ⟨⟨_, he⟩, _⟩ := st; wpAny_pyIter_enum he h
def iEnumA (K : PySem.W.Frag) (ta : TA) : TI := fun σ H R => ta σ H fun vs H1 => ∃ a xs, vs = [.ref a] ∧ ((SqL K H1 a xs ∧ R (Ite K a) H1) ∨ (SqT K H1 a xs ∧ R (IteT K a) H1))
theorem pi_enumA {X : Cx} {e : Expr} {ta : TA} {p pos tpos : Pos} {elts : List Expr} {kk : Nat} (hg : Gl X "enumerate") (hm : X.mg "enumerate" = none) (ha : PA X [e] ta) (hs : starEach [e] X.env = [(false, eval e X.env)] := by rfl) :
    PI X (.Tuple elts kk tpos) (.Call (.Name "enumerate" p) [e] [] pos) (iEnumA X.K ta) := by
  refine ⟨fun pins s σ H R I h => ?_⟩
  refine Call_ (ld_blt I hg hm boot_enumerate (PyProof.Rows.callWith_type1 (thn (ha.run pos pins s σ H _ I h) fun us s1 ⟨vs, H1, I1, r1, q1⟩ => ?_) hs rfl))
  obtain ⟨a, xs, ex, q⟩ := q1
  subst ex
  cases r1 with
  | cons r rr =>
    cases rr
    cases r
    have fin : ∀ b, b = s1.heap.objs.size + 1 ∨ b = s1.heap.objs.size → FpOk X pins H1 b := fun b e' => by
      have hle : s1.heap.objs.size ≤ b := by
        rcases e' with z | z
        · rw [z]; exact Nat.le_add_right _ _
        · rw [z]; exact Nat.le_refl _
      exact I1.fpOk hle (I1.hok.fresh hle)
    rcases q with ⟨hq, q⟩ | ⟨hq, q⟩
    · obtain ⟨its, rv, p', hz⟩ := I1.list hq
      refine call_enumerate_list p'.isList fun h' he hit hsz hk => wpAny_pyIter_enum he ?_
      have I2 : Inv X pins σ H1 { s1 with heap := h' } := I1.kept (t' := s1.toks) hk
      exact ⟨s1.heap.objs.size + 1, [s1.heap.objs.size + 1, s1.heap.objs.size], _, _, H1, rfl, I2, turn_enum a (s1.heap.objs.size + 1) s1.heap.objs.size, ⟨⟨.none, he⟩, hit, Nat.succ_ne_self _⟩, fun b hb => fin b (by simpa using hb), q⟩
    · obtain ⟨its, rv, p', hz⟩ := I1.tuple hq
      have hal : a < s1.heap.objs.size := by obtain ⟨_, q, _⟩ := p'; exact Heap.lt_size q
      refine PySem.gt_call_enum p' fun h' he hit hsz hk => wpAny_pyIter_enum he ?_
      have I2 : Inv X pins σ H1 { s1 with heap := h' } := I1.kept (t' := s1.toks) hk
      exact ⟨s1.heap.objs.size + 1, [s1.heap.objs.size + 1, s1.heap.objs.size], _, _, H1, rfl, I2, turn_enumT a (s1.heap.objs.size + 1) s1.heap.objs.size, ⟨⟨.none, he⟩, hit, Nat.succ_ne_self _, Nat.ne_of_gt (Nat.lt_succ_of_lt hal), Nat.ne_of_lt hal⟩, fun b hb => fin b (by simpa using hb), q⟩
end G

/-! The data layer: readings of the hand layer as mirrors over plain data. -/
namespace G
open PySem PySem.Spec PyProof.Rows L2

abbrev D := PyData
abbrev Slots := List (Option D)
abbrev Frag := PySem.W.Frag

/-! ### data in a heap, kept as the heap grows -/
theorem seqT {K : Frag} {H H' : Hp} {a : Addr} {xs : List V} (e : Same H H') (h : SqT K H a xs) : SqT K H' a xs := by
  rcases h with (h | ⟨o, h⟩) | h
  · exact .inl (.inl (e _ _ h))
  · exact .inl (.inr ⟨o, e _ _ h⟩)
  · exact .inr h
mutual
/-- v is the data d in the heap H; its lists are tracked -/
inductive Rp (K : Frag) (H : Hp) : V → D → Prop
  | non : Rp K H .non .none
  | bl (b : Bool) : Rp K H (.bl b) (.bool b)
  | int (i : Int) : Rp K H (.int i) (.int i)
  | str (x : Str) : Rp K H (.str x) (.str x)
  | lst {a : Addr} {xs : List V} {ds : List D} : H a = some (.lst xs) → RpAll K H xs ds → Rp K H (.ref a) (.list ds)
  | tup {a : Addr} {xs : List V} {ds : List D} : SqT K H a xs → RpAll K H xs ds → Rp K H (.ref a) (.tuple ds)
inductive RpAll (K : Frag) (H : Hp) : List V → List D → Prop
  | nil : RpAll K H [] []
  | cons {v : V} {vs : List V} {d : D} {ds : List D} : Rp K H v d → RpAll K H vs ds → RpAll K H (v :: vs) (d :: ds)
end
mutual
theorem rp_mono {K : Frag} {F H : Hp} (s : Same F H) : ∀ (d : D) (v : V), Rp K F v d → Rp K H v d
  | .none, _, h => by cases h; exact .non
  | .bool b, _, h => by cases h; exact .bl b
  | .int i, _, h => by cases h; exact .int i
  | .str x, _, h => by cases h; exact .str x
  | .list ds, _, h => by
    cases h with
    | lst h1 h2 => exact .lst (s _ _ h1) (rpAll_mono s ds _ h2)
  | .tuple ds, _, h => by
    cases h with
    | tup h1 h2 => exact .tup (seqT s h1) (rpAll_mono s ds _ h2)
  | .dict _, _, h => by cases h
theorem rpAll_mono {K : Frag} {F H : Hp} (s : Same F H) : ∀ (ds : List D) (vs : List V), RpAll K F vs ds → RpAll K H vs ds
  | [], _, h => by cases h; exact .nil
  | d :: ds, _, h => by
    cases h with
    | cons h1 h2 => exact .cons (rp_mono s d _ h1) (rpAll_mono s ds _ h2)
end
mutual
theorem rp_dp {K : Frag} {F : Hp} : ∀ (d : D) (v : V), Rp K F v d → Dp K F v d
  | .none, _, h => by cases h; exact .non
  | .bool b, _, h => by cases h; exact .bl b
  | .int i, _, h => by cases h; exact .int i
  | .str x, _, h => by cases h; exact .str x
  | .list ds, _, h => by
    cases h with
    | lst h1 h2 => exact .lst (SqL.of h1) (rpAll_dp ds _ h2)
  | .tuple ds, _, h => by
    cases h with
    | tup h1 h2 => exact .tup h1 (rpAll_dp ds _ h2)
  | .dict _, _, h => by cases h
theorem rpAll_dp {K : Frag} {F : Hp} : ∀ (ds : List D) (vs : List V), RpAll K F vs ds → DpAll K F vs ds
  | [], _, h => by cases h; exact .nil
  | d :: ds, _, h => by
    cases h with
    | cons h1 h2 => exact .cons (rp_dp d _ h1) (rpAll_dp ds _ h2)
end
theorem Rp.mo {K : Frag} {F H : Hp} {d : D} {v : V} (h : Rp K F v d) (s : Same F H) : Rp K H v d := rp_mono s d v h
theorem RpAll.mo {K : Frag} {F H : Hp} {d : List D} {v : List V} (h : RpAll K F v d) (s : Same F H) : RpAll K H v d := rpAll_mono s d v h
theorem RpAll.length {K : Frag} {F : Hp} : ∀ {vs : List V} {ds : List D}, RpAll K F vs ds → vs.length = ds.length
  | _, [], h => by cases h; rfl
  | _, d :: ds, h => by
    cases h with
    | cons _ h2 => rw [List.length_cons, List.length_cons, RpAll.length h2]
theorem RpAll.get {K : Frag} {F : Hp} : ∀ {vs : List V} {ds : List D} {i : Nat} {d : D}, RpAll K F vs ds → ds[i]? = some d → ∃ v, vs[i]? = some v ∧ Rp K F v d
  | _, [], _, _, h, e => by simp at e
  | _, x :: ds, 0, d, h, e => by
    cases h with
    | cons h1 h2 =>
      have e : x = d := Option.some.inj e
      subst e
      exact ⟨_, rfl, h1⟩
  | _, x :: ds, i + 1, d, h, e => by
    cases h with
    | cons h1 h2 =>
      obtain ⟨v, e1, r⟩ := RpAll.get (i := i) h2 (by simpa using e)
      exact ⟨v, by simpa using e1, r⟩
theorem RpAll.append {K : Frag} {F : Hp} : ∀ {vs ws : List V} {ds es : List D}, RpAll K F vs ds → RpAll K F ws es → RpAll K F (vs ++ ws) (ds ++ es)
  | _, _, [], _, h, h' => by cases h; exact h'
  | _, _, d :: ds, _, h, h' => by
    cases h with
    | cons h1 h2 => exact .cons h1 (RpAll.append h2 h')
theorem RpAll.single {K : Frag} {F : Hp} {v : V} {d : D} (h : Rp K F v d) : RpAll K F [v] [d] := .cons h .nil
theorem RpAll.take {K : Frag} {F : Hp} : ∀ {vs : List V} {ds : List D} (n : Nat), RpAll K F vs ds → RpAll K F (vs.take n) (ds.take n)
  | _, _, 0, _ => by simp only [List.take_zero]; exact .nil
  | _, [], n + 1, h => by cases h; exact .nil
  | _, d :: ds, n + 1, h => by
    cases h with
    | cons h1 h2 => exact .cons h1 (RpAll.take n h2)
theorem RpAll.drop {K : Frag} {F : Hp} : ∀ {vs : List V} {ds : List D} (n : Nat), RpAll K F vs ds → RpAll K F (vs.drop n) (ds.drop n)
  | _, _, 0, h => h
  | _, [], n + 1, h => by cases h; exact .nil
  | _, d :: ds, n + 1, h => by
    cases h with
    | cons h1 h2 => exact RpAll.drop n h2
theorem RpAll.set {K : Frag} {F : Hp} {v : V} {d : D} (r : Rp K F v d) : ∀ {vs : List V} {ds : List D} (i : Nat), RpAll K F vs ds → RpAll K F (vs.set i v) (ds.set i d)
  | _, [], _, h => by cases h; exact .nil
  | _, x :: ds, 0, h => by
    cases h with
    | cons h1 h2 => exact .cons r h2
  | _, x :: ds, i + 1, h => by
    cases h with
    | cons h1 h2 => exact .cons h1 (RpAll.set r i h2)
theorem RpAll.reverse {K : Frag} {F : Hp} : ∀ {vs : List V} {ds : List D}, RpAll K F vs ds → RpAll K F vs.reverse ds.reverse
  | _, [], h => by cases h; exact .nil
  | _, d :: ds, h => by
    cases h with
    | cons h1 h2 =>
      rw [List.reverse_cons, List.reverse_cons]
      exact RpAll.append (RpAll.reverse h2) (RpAll.single h1)
theorem RpAll.eraseIdx {K : Frag} {F : Hp} : ∀ {vs : List V} {ds : List D} (i : Nat), RpAll K F vs ds → RpAll K F (vs.eraseIdx i) (ds.eraseIdx i)
  | _, [], _, h => by cases h; exact .nil
  | _, x :: ds, 0, h => by
    cases h with
    | cons h1 h2 => exact h2
  | _, x :: ds, i + 1, h => by
    cases h with
    | cons h1 h2 => exact .cons h1 (RpAll.eraseIdx i h2)
theorem RpAll.ints {K : Frag} {F : Hp} : ∀ (ns : List Int), RpAll K F (ns.map V.int) (ns.map PyData.int)
  | [] => .nil
  | n :: ns => .cons (.int n) (RpAll.ints ns)
/-- ints as data come from ints as values -/
theorem RpAll.of_ints {K : Frag} {F : Hp} : ∀ {vs : List V} {ns : List Int}, RpAll K F vs (ns.map PyData.int) → vs = ns.map V.int
  | _, [], h => by cases h; rfl
  | _, n :: ns, h => by
    cases h with
    | cons h1 h2 =>
      cases h1
      rw [RpAll.of_ints h2]
      rfl
theorem RpAll.of_bools {K : Frag} {F : Hp} : ∀ {vs : List V} {ns : List Bool}, RpAll K F vs (ns.map PyData.bool) → vs = ns.map V.bl
  | _, [], h => by cases h; rfl
  | _, n :: ns, h => by
    cases h with
    | cons h1 h2 =>
      cases h1
      rw [RpAll.of_bools h2]
      rfl
theorem RpAll.replicate {K : Frag} {F : Hp} {vs : List V} {ds : List D} (h : RpAll K F vs ds) : ∀ n : Nat, RpAll K F (List.replicate n vs).flatten (List.replicate n ds).flatten
  | 0 => .nil
  | n + 1 => by
    rw [List.replicate_succ, List.replicate_succ, List.flatten_cons, List.flatten_cons]
    exact RpAll.append h (RpAll.replicate h n)

/-! ### the frozen part F of the heap H, and how both go on -/
structure Ext (ex : List Addr) (F H F' H' : Hp) : Prop where
  sF : Same F F'
  sH : ∀ b o, b ∉ ex → H b = some o → H' b = some o
  dom : ∀ b, H b ≠ none → H' b ≠ none
  sub : Same F' H'
  fr : ∀ b, F b = none → F' b ≠ none → H b = none
theorem Ext.refl {ex : List Addr} {F H : Hp} (h : Same F H) : Ext ex F H F H := ⟨Same.refl F, fun _ _ _ e => e, fun _ e => e, h, fun _ e n => absurd e n⟩
theorem Ext.trans {ex : List Addr} {F H F1 H1 F2 H2 : Hp} (a : Ext ex F H F1 H1) (b : Ext ex F1 H1 F2 H2) : Ext ex F H F2 H2 where
  sF := a.sF.trans b.sF
  sH := fun c o n e => b.sH c o n (a.sH c o n e)
  dom := fun c n => b.dom c (a.dom c n)
  sub := b.sub
  fr := fun c e n => by
    cases q : F1 c with
    | some o => exact a.fr c e (by rw [q]; exact Option.some_ne_none _)
    | none =>
      have h1 := b.fr c q n
      cases q2 : H c with
      | none => rfl
      | some o => exact absurd h1 (a.dom c (by rw [q2]; exact Option.some_ne_none _))
theorem Ext.weak {ex : List Addr} {F H F' H' : Hp} (a : Ext [] F H F' H') : Ext ex F H F' H' := ⟨a.sF, fun b o _ e => a.sH b o (by simp) e, a.dom, a.sub, a.fr⟩
theorem Ext.same {F H F' H' : Hp} (a : Ext [] F H F' H') : Same H H' := fun b o e => a.sH b o (by simp) e
/-- a new frozen object -/
theorem Ext.new {F H : Hp} {p : Addr} {o : HO} (s : Same F H) (h : H p = none) : Ext [] F H (upd F p o) (upd H p o) where
  sF := fun b u e => by
    have : b ≠ p := fun z => by
      rw [z] at e
      rw [s _ _ e] at h
      cases h
    rw [upd_ne this]; exact e
  sH := fun b u _ e => by
    rw [upd_ne (ne_of_none e h)]; exact e
  dom := fun b n => by
    by_cases e : b = p
    · rw [e, upd_same]; exact Option.some_ne_none _
    · rw [upd_ne e]; exact n
  sub := fun b u e => by
    by_cases q : b = p
    · rw [q, upd_same] at e ⊢; exact e
    · rw [upd_ne q] at e ⊢; exact s _ _ e
  fr := fun b e n => by
    by_cases q : b = p
    · rw [q]; exact h
    · rw [upd_ne q] at n; exact absurd e n
/-- a new object that is not frozen -/
theorem Ext.newO {F H : Hp} {p : Addr} {o : HO} (s : Same F H) (h : H p = none) : Ext [] F H F (upd H p o) where
  sF := Same.refl F
  sH := fun b u _ e => by
    rw [upd_ne (ne_of_none e h)]; exact e
  dom := fun b n => by
    by_cases e : b = p
    · rw [e, upd_same]; exact Option.some_ne_none _
    · rw [upd_ne e]; exact n
  sub := fun b u e => by
    rw [upd_ne (ne_of_none (s _ _ e) h)]; exact s _ _ e
  fr := fun b e n => absurd e n
/-- an object that stands is frozen -/
theorem Ext.freeze {F H : Hp} {p : Addr} {o : HO} (s : Same F H) (hF : F p = none) (h : H p = some o) : Same F (upd F p o) ∧ Same (upd F p o) H := by
  refine ⟨fun b u e => ?_, fun b u e => ?_⟩
  · have : b ≠ p := fun z => by
      rw [z, hF] at e
      cases e
    rw [upd_ne this]; exact e
  · by_cases q : b = p
    · rw [q, upd_same] at e
      rw [q, h]; exact e
    · rw [upd_ne q] at e
      exact s _ _ e
theorem free_of {F H : Hp} (s : Same F H) {p : Addr} (h : H p = none) : F p = none := s.free h

/-! ### the ambient state -/
structure Amb (S : Type) where
  ex : List Addr
  /-- tables of code objects among them: they may grow -/
  tb : List Addr
  sub : ∀ b ∈ tb, b ∈ ex
  rel : S → Hp → Prop
  tabs : ∀ s H, rel s H → ∀ b ∈ tb, GxR.TabG H b
  mix : ∀ s H H', rel s H → (∀ b ∈ ex, b ∉ tb → ∀ o, H b = some o → H' b = some o) → (∀ b ∈ tb, GxR.TabG H' b) → rel s H'
  dom : ∀ s H, rel s H → ∀ b ∈ ex, H b ≠ none
  root : V
theorem Amb.keep {S : Type} (A : Amb S) (s : S) (H H' : Hp) (h : A.rel s H) (k : ∀ b ∈ A.ex, ∀ o, H b = some o → H' b = some o) : A.rel s H' :=
  A.mix s H H' h (fun b hb _ => k b hb) fun b hb => let ⟨ps, e, t⟩ := A.tabs s H h b hb; ⟨ps, k b (A.sub b hb) _ e, t⟩
/-- the tables of the defs that hold generator expressions -/
class Tabs where
  l : List Addr
abbrev TabsOk [T : Tabs] (H : Hp) : Prop := ∀ b ∈ T.l, GxR.TabG H b
def amb0 [T : Tabs] : Amb Unit where
  ex := T.l
  tb := T.l
  sub := fun _ h => h
  rel := fun _ H => TabsOk H
  tabs := fun _ _ h => h
  mix := fun _ _ _ _ _ h => h
  dom := fun s H h b hb => by
    obtain ⟨ps, e, _⟩ := h b hb
    rw [e]; exact Option.some_ne_none _
  root := .non
structure DS where
  cells : List Int
  seed : Int
/-- the law's state stands at sa, its cells at ca -/
def relS (sa ca : Addr) (s : DS) (H : Hp) : Prop := H sa = some (.lst [.ref ca, .int s.seed]) ∧ H ca = some (.lst (s.cells.map V.int))
theorem relS_not {sa ca : Addr} {s : DS} {H : Hp} (h : relS sa ca s H) {b : Addr} (t : GxR.TabG H b) : b ≠ sa ∧ b ≠ ca := by
  obtain ⟨ps, e, _⟩ := t
  refine ⟨fun z => ?_, fun z => ?_⟩
  · rw [z, h.1] at e; cases e
  · rw [z, h.2] at e; cases e
def ambS [T : Tabs] (sa ca : Addr) : Amb DS where
  ex := sa :: ca :: T.l
  tb := T.l
  sub := fun _ h => List.mem_cons_of_mem _ (List.mem_cons_of_mem _ h)
  rel := fun s H => relS sa ca s H ∧ TabsOk H
  tabs := fun _ _ h => h.2
  mix := fun s H H' h k t => ⟨⟨k sa (by simp) (fun z => (relS_not h.1 (h.2 _ z)).1 rfl) _ h.1.1, k ca (by simp) (fun z => (relS_not h.1 (h.2 _ z)).2 rfl) _ h.1.2⟩, t⟩
  dom := fun s H h b hb => by
    simp only [List.mem_cons] at hb
    rcases hb with e | e | e
    · rw [e, h.1.1]; exact Option.some_ne_none _
    · rw [e, h.1.2]; exact Option.some_ne_none _
    · obtain ⟨ps, z, _⟩ := h.2 b e
      rw [z]; exact Option.some_ne_none _
  root := .ref sa
theorem Ext.wide {ex ex' : List Addr} {F H F' H' : Hp} (a : Ext ex F H F' H') (h : ∀ b ∈ ex, b ∈ ex') : Ext ex' F H F' H' := ⟨a.sF, fun b o n e => a.sH b o (fun z => n (h b z)) e, a.dom, a.sub, a.fr⟩
theorem Amb.ext {S : Type} (A : Amb S) {s : S} {F H F' H' : Hp} (h : A.rel s H) (e : Ext [] F H F' H') : A.rel s H' := A.keep s H H' h fun b _ o q => e.sH b o (by simp) q

/-! ### the state of a body: slots' data, frozen or owned -/
structure Stt {S : Type} (K : Frag) (A : Amb S) (sv : Option Nat) (own : List Nat) (F0 H0 F H : Hp) (ρ : Slots) (s : S) (σ : L2.St) : Prop where
  ext : Ext A.ex F0 H0 F H
  rel : A.rel s H
  exF : ∀ b ∈ A.ex, F b = none
  len : σ.length = ρ.length
  root : ∀ j, sv = some j → σ[j]? = some (some A.root)
  dat : ∀ i d, ρ[i]? = some (some d) → i ∉ own → ∃ v, σ[i]? = some (some v) ∧ Rp K F v d
  ow : ∀ i, i ∈ own → ∀ d, ρ[i]? = some (some d) → ∃ o vs ds, σ[i]? = some (some (.ref o)) ∧ d = .list ds ∧ F o = none ∧ H0 o = none ∧ o ∉ A.ex ∧ H o = some (.lst vs) ∧ RpAll K F vs ds
  dis : ∀ i, i ∈ own → ∀ j, j ∈ own → i ≠ j → ∀ o o' d d', ρ[i]? = some (some d) → ρ[j]? = some (some d') → σ[i]? = some (some (.ref o)) → σ[j]? = some (some (.ref o')) → o ≠ o'

section
variable {S : Type} {K : Frag} {A : Amb S} {sv : Option Nat} {own : List Nat} {F0 H0 F H F' H' : Hp} {ρ : Slots} {s s' : S} {σ : L2.St}
theorem Ext.exN (e : Ext A.ex F H F' H') (x : ∀ b ∈ A.ex, F b = none) (r : A.rel s H) : ∀ b ∈ A.ex, F' b = none := fun b hb => by
  cases q : F' b with
  | none => rfl
  | some o => exact absurd (e.fr b (x b hb) (by rw [q]; exact Option.some_ne_none _)) (A.dom s H r b hb)
theorem Stt.next (st : Stt K A sv own F0 H0 F H ρ s σ) (e : Ext A.ex F H F' H') (r : A.rel s' H') : Stt K A sv own F0 H0 F' H' ρ s' σ where
  ext := st.ext.trans e
  rel := r
  exF := e.exN st.exF st.rel
  len := st.len
  root := st.root
  dat := fun i d h n => by
    obtain ⟨v, e1, r1⟩ := st.dat i d h n
    exact ⟨v, e1, Rp.mo r1 e.sF⟩
  ow := fun i hi d h => by
    obtain ⟨o, vs, ds, e1, e2, n1, n2, n3, h1, r1⟩ := st.ow i hi d h
    refine ⟨o, vs, ds, e1, e2, ?_, n2, n3, e.sH o _ n3 h1, RpAll.mo r1 e.sF⟩
    cases q : F' o with
    | none => rfl
    | some u =>
      have z := e.fr o n1 (by rw [q]; exact Option.some_ne_none _)
      rw [h1] at z
      cases z
  dis := st.dis
theorem Stt.sub (st : Stt K A sv own F0 H0 F H ρ s σ) : Same F H := st.ext.sub
/-- an owned slot is frozen -/
theorem Stt.fzS (st : Stt K A sv own F0 H0 F H ρ s σ) (i : Nat) : ∃ F', Stt K A sv (own.filter (· != i)) F0 H0 F' H ρ s σ ∧ Same F F' := by
  have mem : ∀ j, j ∈ own.filter (· != i) ↔ j ∈ own ∧ j ≠ i := fun j => by simp
  by_cases hi : i ∈ own ∧ ∃ d, ρ[i]? = some (some d)
  · obtain ⟨hi, d, hd⟩ := hi
    obtain ⟨o, vs, ds, e1, e2, n1, n2, n3, h1, r1⟩ := st.ow i hi d hd
    obtain ⟨s1, s2⟩ := Ext.freeze st.sub n1 h1
    refine ⟨upd F o (.lst vs), ⟨⟨st.ext.sF.trans s1, st.ext.sH, st.ext.dom, s2, fun b e n => ?_⟩, st.rel, fun b hb => ?_, st.len, st.root, fun j c hj nj => ?_, fun j hj c hc => ?_, fun j hj l hl => ?_⟩, s1⟩
    · by_cases q : b = o
      · rw [q]; exact n2
      · rw [upd_ne q] at n; exact st.ext.fr b e n
    · rw [upd_ne (fun z => n3 (by rw [← z]; exact hb))]
      exact st.exF b hb
    · by_cases q : j ∈ own
      · have ji : j = i := by
          by_cases z : j = i
          · exact z
          · exact absurd ((mem j).mpr ⟨q, z⟩) nj
        subst ji
        rw [hd] at hj
        cases hj
        subst e2
        exact ⟨_, e1, Rp.lst upd_same (RpAll.mo r1 s1)⟩
      · obtain ⟨v, q1, q2⟩ := st.dat j c hj q
        exact ⟨v, q1, Rp.mo q2 s1⟩
    · obtain ⟨hj1, hj2⟩ := (mem j).mp hj
      obtain ⟨o', vs', ds', q1, q2, q3, q4, q5, q6, q7⟩ := st.ow j hj1 c hc
      have ne : o' ≠ o := st.dis j hj1 i hi hj2 o' o c d hc hd q1 e1
      exact ⟨o', vs', ds', q1, q2, by rw [upd_ne ne]; exact q3, q4, q5, q6, RpAll.mo q7 s1⟩
    · exact st.dis j ((mem j).mp hj).1 l ((mem l).mp hl).1
  · refine ⟨F, ⟨st.ext, st.rel, st.exF, st.len, st.root, fun j c hj nj => ?_, fun j hj => st.ow j ((mem j).mp hj).1, fun j hj l hl => st.dis j ((mem j).mp hj).1 l ((mem l).mp hl).1⟩, Same.refl F⟩
    by_cases q : j ∈ own
    · have ji : j = i := by
        by_cases z : j = i
        · exact z
        · exact absurd ((mem j).mpr ⟨q, z⟩) nj
      subst ji
      exact absurd ⟨q, _, hj⟩ hi
    · exact st.dat j c hj q
end
end G

/-! The data layer's rules: a construct, its mirror. -/
namespace G
open PySem PySem.Spec PyProof.Rows L2

def bnd {α β S : Type} (m : Option (α × S)) (k : α → S → Option β) : Option β :=
  match m with
  | some (x, s) => k x s
  | none => none
theorem bnd_some {α β S : Type} {m : Option (α × S)} {k : α → S → Option β} {b : β} (h : bnd m k = some b) : ∃ x s, m = some (x, s) ∧ k x s = some b := by
  cases m with
  | none => cases h
  | some p => exact ⟨p.1, p.2, rfl, h⟩
theorem bnd_mk {α β S : Type} {x : α} {s : S} {k : α → S → Option β} : bnd (some (x, s)) k = k x s := rfl
theorem bind_some {α β : Type} {m : Option α} {k : α → Option β} {b : β} (h : m.bind k = some b) : ∃ x, m = some x ∧ k x = some b := by
  cases m with
  | none => cases h
  | some p => exact ⟨p, rfl, h⟩

abbrev EM (S : Type) := Slots → S → Option (D × S)
abbrev TM (S : Type) := Slots → S → Option (Bool × S)
abbrev LM (S : Type) := Slots → S → Option (List D × S)
inductive Res where
  | nx (ρ : Slots) | rt (d : D) | bk (ρ : Slots) | ct (ρ : Slots)
abbrev SM (S : Type) := Slots → S → Option (Res × S)

def svNe : Option Nat → Nat → Bool
  | none, _ => true
  | some j, i => !(Nat.beq j i)
theorem svNe_ok {o : Option Nat} {i : Nat} (h : svNe o i = true) : o ≠ some i := by
  intro e
  subst e
  have : Nat.beq i i = true := Nat.beq_refl i
  have h : (!(Nat.beq i i)) = true := h
  rw [this] at h
  cases h
theorem svNe_all {o : Option Nat} {l : List Nat} (h : l.all (svNe o) = true) : ∀ i ∈ l, o ≠ some i := fun i hi => svNe_ok (List.all_eq_true.mp h i hi)
/-- the contexts in which a piece of text runs -/
structure Fam (S : Type) where
  ι : Type
  X : ι → Cx
  K : Frag
  N : List Str
  k : Nat
  A : Amb S
  sv : Option Nat
  hK : ∀ i, (X i).K = K
  hN : ∀ i, (X i).N = N
  nd : N.Nodup
  room : ∀ i, Room k (X i).A
  calm : ∀ i, (X i).calm = true

section
variable {S : Type} (f : Fam S) (own : List Nat)
def DE (t : TE) (m : EM S) : Prop := ∀ F0 H0 F H ρ s σ, Stt f.K f.A f.sv own F0 H0 F H ρ s σ → ∀ d s', m ρ s = some (d, s') → ∀ Q : VK,
  (∀ F' H' v, Ext f.A.ex F H F' H' → f.A.rel s' H' → Rp f.K F' v d → Q v H') → t σ H Q
/-- a fresh list, owned by nobody yet -/
def DO (t : TE) (m : EM S) : Prop := ∀ F0 H0 F H ρ s σ, Stt f.K f.A f.sv own F0 H0 F H ρ s σ → ∀ d s', m ρ s = some (d, s') → ∀ Q : VK,
  (∀ F' H' o vs ds, Ext f.A.ex F H F' H' → f.A.rel s' H' → d = .list ds → F' o = none → H o = none → H' o = some (.lst vs) → RpAll f.K F' vs ds → Q (.ref o) H') → t σ H Q
def DT (t : TT) (m : TM S) : Prop := ∀ F0 H0 F H ρ s σ, Stt f.K f.A f.sv own F0 H0 F H ρ s σ → ∀ b s', m ρ s = some (b, s') → ∀ Q : Bool → Hp → Prop,
  (∀ F' H', Ext f.A.ex F H F' H' → f.A.rel s' H' → Q b H') → t σ H Q
def DA (t : TA) (m : LM S) : Prop := ∀ F0 H0 F H ρ s σ, Stt f.K f.A f.sv own F0 H0 F H ρ s σ → ∀ ds s', m ρ s = some (ds, s') → ∀ Q : List V → Hp → Prop,
  (∀ F' H' vs, Ext f.A.ex F H F' H' → f.A.rel s' H' → RpAll f.K F' vs ds → Q vs H') → t σ H Q
structure WE (e : Expr) (m : EM S) : Prop where
  ex : ∃ t, (∀ i, PE (f.X i) e t) ∧ DE f own t m
structure WO (e : Expr) (m : EM S) : Prop where
  ex : ∃ t, (∀ i, PE (f.X i) e t) ∧ DO f own t m
structure WT (e : Expr) (m : TM S) : Prop where
  ex : ∃ t, (∀ i, PT (f.X i) e t) ∧ DT f own t m
structure WW (e : Expr) (m : TM S) : Prop where
  ex : ∃ t, (∀ i, PW (f.X i) e t) ∧ DT f own t m
structure WA (es : List Expr) (m : LM S) : Prop where
  ex : ∃ t, (∀ i, PA (f.X i) es t) ∧ DA f own t m
  len : ∀ ρ s ds s', m ρ s = some (ds, s') → ds.length = es.length
end

section
variable {S : Type} {f : Fam S} {own : List Nat}
/-- a fresh list is frozen -/
theorem DO.de {t : TE} {m : EM S} (h : DO f own t m) : DE f own t m := by
  intro F0 H0 F H ρ s σ st d s' e Q q
  refine h _ _ _ _ _ _ _ st d s' e Q fun F' H' o vs ds E r ed n1 n2 h1 r1 => ?_
  obtain ⟨s1, s2⟩ := Ext.freeze E.sub n1 h1
  subst ed
  refine q (upd F' o (.lst vs)) H' _ ⟨E.sF.trans s1, E.sH, E.dom, s2, fun b eb n => ?_⟩ r (Rp.lst upd_same (RpAll.mo r1 s1))
  by_cases z : b = o
  · rw [z]; exact n2
  · rw [upd_ne z] at n
    exact E.fr b eb n
theorem WO.we {e : Expr} {m : EM S} (h : WO f own e m) : WE f own e m := let ⟨t, p, d⟩ := h.ex; ⟨t, p, d.de⟩

/-! ### names and constants -/
def eVar (i : Nat) : EM S := fun ρ s => match ρ[i]? with
  | some (some d) => some (d, s)
  | _ => none
theorem eVar_some {i : Nat} {ρ : Slots} {s s' : S} {d : D} (h : eVar i ρ s = some (d, s')) : ρ[i]? = some (some d) ∧ s' = s := by
  unfold eVar at h
  split at h
  · rename_i d' e
    cases h
    exact ⟨e, rfl⟩
  · cases h
theorem de_var {i : Nat} (ni : i ∉ own) : DE f own (tVar i) (eVar i) := by
  intro F0 H0 F H ρ s σ st d s' e Q q
  obtain ⟨e1, rfl⟩ := eVar_some e
  obtain ⟨v, h1, r1⟩ := st.dat i d e1 ni
  exact ⟨v, h1, q F H v (Ext.refl st.sub) st.rel r1⟩
theorem we_var {x : Str} {pos : Pos} (i : Nat) (hN : f.N[i]? = some x := by rfl) (hv : ∀ j, Vis (f.X j).env.scope x := by intro _; first | exact Or.inl rfl | exact Or.inr (Or.inl rfl) | exact Or.inr (Or.inr rfl))
    (ni : i ∉ own := by decide) (hd : (x == ("__debug__" : Str)) = false := by decide) (hcd : (x == ("__classdict__" : Str)) = false := by decide) : WE f own (.Name x pos) (eVar i) :=
  ⟨tVar i, fun j => pe_var (by rw [f.hN]; exact hN) (hv j) hd hcd, de_var ni⟩
def eC (d : D) : EM S := fun _ s => some (d, s)
theorem de_c {v : V} {d : D} (h : ∀ F, Rp f.K F v d) : DE f own (tC v) (eC d) := by
  intro F0 H0 F H ρ s σ st d' s' e Q q
  cases e
  exact q F H v (Ext.refl st.sub) st.rel (h F)
theorem we_int {n : Int} {j pos} : WE f own (.Constant (.int n) j pos) (eC (.int n)) := ⟨_, fun _ => pe_int, de_c fun _ => .int n⟩
theorem we_bl {n : Bool} {j pos} : WE f own (.Constant (.bool n) j pos) (eC (.bool n)) := ⟨_, fun _ => pe_bl, de_c fun _ => .bl n⟩
theorem we_non {j pos} : WE f own (.Constant .none j pos) (eC .none) := ⟨_, fun _ => pe_non, de_c fun _ => .non⟩
theorem we_str {n : Str} {j pos} : WE f own (.Constant (.str n) j pos) (eC (.str n)) := ⟨_, fun _ => pe_str, de_c fun _ => .str n⟩
/-- a module's constant, an int -/
theorem we_globI {x : Str} {pos : Pos} (n : Int) {t : Tok} (hg : ∀ i, Gl (f.X i) x) (hm : ∀ i, (f.X i).mg x = some (.int n t)) (hd : (x == ("__debug__" : Str)) = false := by decide) : WE f own (.Name x pos) (eC (.int n)) :=
  ⟨_, fun i => pe_glob (v := .int n) (hg i) (hm i) ⟨t, rfl⟩ hd, de_c fun _ => .int n⟩

/-! ### operators -/
def eOp2 (g : D → D → Option D) (a b : EM S) : EM S := fun ρ s => bnd (a ρ s) fun x s1 => bnd (b ρ s1) fun y s2 => (g x y).bind fun z => some (z, s2)
def eOp1 (g : D → Option D) (a : EM S) : EM S := fun ρ s => bnd (a ρ s) fun x s1 => (g x).bind fun z => some (z, s1)
/-- a reading of two values does g on data -/
def OpD (K : Frag) (r : R2) (g : D → D → Option D) : Prop := ∀ F H x y dx dy d, Same F H → Rp K F x dx → Rp K F y dy → g dx dy = some d → ∀ Q : VK,
  (∀ F' H' v, Ext [] F H F' H' → Rp K F' v d → Q v H') → r x y H Q
def UnD (K : Frag) (r : V → Hp → VK → Prop) (g : D → Option D) : Prop := ∀ F H x dx d, Same F H → Rp K F x dx → g dx = some d → ∀ Q : VK,
  (∀ F' H' v, Ext [] F H F' H' → Rp K F' v d → Q v H') → r x H Q
def UnO (K : Frag) (r : V → Hp → VK → Prop) (g : D → Option D) : Prop := ∀ F H x dx d, Same F H → Rp K F x dx → g dx = some d → ∀ Q : VK,
  (∀ H' o vs ds, Ext [] F H F H' → d = .list ds → H o = none → H' o = some (.lst vs) → RpAll K F vs ds → Q (.ref o) H') → r x H Q
theorem de_op {r : R2} {g : D → D → Option D} {ta tb : TE} {a b : EM S} (h : OpD f.K r g) (ha : DE f own ta a) (hb : DE f own tb b) : DE f own (tOp r ta tb) (eOp2 g a b) := by
  intro F0 H0 F H ρ s σ st d s' e Q q
  obtain ⟨x, s1, e1, e⟩ := bnd_some e
  obtain ⟨y, s2, e2, e⟩ := bnd_some e
  obtain ⟨z, e3, e⟩ := bind_some e
  cases e
  refine ha _ _ _ _ _ _ _ st x s1 e1 _ fun F1 H1 v E1 r1 p1 => ?_
  refine hb _ _ _ _ _ _ _ (st.next E1 r1) y _ e2 _ fun F2 H2 u E2 r2 p2 => ?_
  refine h F2 H2 v u x y d E2.sub (Rp.mo p1 E2.sF) p2 e3 _ fun F3 H3 z' E3 p3 => ?_
  exact q F3 H3 z' ((E1.trans E2).trans E3.weak) (f.A.ext r2 E3) p3
theorem de_un {r : V → Hp → VK → Prop} {g : D → Option D} {ta : TE} {a : EM S} (h : UnD f.K r g) (ha : DE f own ta a) : DE f own (tUn r ta) (eOp1 g a) := by
  intro F0 H0 F H ρ s σ st d s' e Q q
  obtain ⟨x, s1, e1, e⟩ := bnd_some e
  obtain ⟨z, e3, e⟩ := bind_some e
  cases e
  refine ha _ _ _ _ _ _ _ st x _ e1 _ fun F1 H1 v E1 r1 p1 => ?_
  refine h F1 H1 v x d E1.sub p1 e3 _ fun F3 H3 z' E3 p3 => ?_
  exact q F3 H3 z' (E1.trans E3.weak) (f.A.ext r1 E3) p3
theorem do_un {r : V → Hp → VK → Prop} {g : D → Option D} {ta : TE} {a : EM S} (h : UnO f.K r g) (ha : DE f own ta a) : DO f own (tUn r ta) (eOp1 g a) := by
  intro F0 H0 F H ρ s σ st d s' e Q q
  obtain ⟨x, s1, e1, e⟩ := bnd_some e
  obtain ⟨z, e3, e⟩ := bind_some e
  cases e
  refine ha _ _ _ _ _ _ _ st x _ e1 _ fun F1 H1 v E1 r1 p1 => ?_
  refine h F1 H1 v x d E1.sub p1 e3 _ fun H3 o vs ds E3 ed n1 h1 p3 => ?_
  have n0 : H o = none := by
    cases z : H o with
    | none => rfl
    | some u => exact absurd n1 (E1.dom o (by rw [z]; exact Option.some_ne_none _))
  exact q F1 H3 o vs ds (E1.trans E3.weak) (f.A.ext r1 E3) ed (free_of E1.sub n1) n0 h1 p3

/-! ints -/
theorem opd_int {K : Frag} {c : Int → Int → Bool} {g : Int → Int → Int} {C : Int → Int → Prop} (hc : ∀ i j, c i j = true → C i j) :
    OpD K (rI C fun i j => .int (g i j)) (fun x y => match x, y with | .int i, .int j => if c i j = true then some (.int (g i j)) else none | _, _ => none) := by
  intro F H x y dx dy d sm rx ry e Q q
  dsimp only at e
  split at e
  · rename_i i j
    split at e
    · rename_i h
      cases e
      cases rx
      cases ry
      exact ⟨i, j, rfl, rfl, hc i j h, q F H _ (Ext.refl sm) (.int _)⟩
    · cases e
  · cases e
theorem opd_or {K : Frag} {r r' : R2} {g g' : D → D → Option D} (h : OpD K r g) (h' : OpD K r' g') : OpD K (fun x y H Q => r x y H Q ∨ r' x y H Q) (fun x y => match g x y with | some z => some z | none => g' x y) := by
  intro F H x y dx dy d sm rx ry e Q q
  dsimp only at e
  split at e
  · rename_i z ez
    cases e
    exact .inl (h F H x y dx dy _ sm rx ry ez Q q)
  · exact .inr (h' F H x y dx dy _ sm rx ry e Q q)

/-- + : ints, lists, tuples -/
def dAdd : D → D → Option D
  | .int i, .int j => some (.int (i + j))
  | .list xs, .list ys => if xs.length + ys.length ≤ sizeLine then some (.list (xs ++ ys)) else none
  | .tuple xs, .tuple ys => if xs.length + ys.length ≤ sizeLine then some (.tuple (xs ++ ys)) else none
  | _, _ => none
def rAddX (K : Frag) : R2 := fun x y H Q => rI0 (fun i j => .int (i + j)) x y H Q ∨ rCat x y H Q ∨ rCatA K x y H Q
theorem add_r (X : Cx) : OpR X (binaryOp .Add) (rAddX X.K) := op_add.or (OpR.or op_cat op_catA)
theorem opd_add {K : Frag} : OpD K (rAddX K) dAdd := by
  intro F H x y dx dy d sm rx ry e Q q
  unfold dAdd at e
  split at e
  · rename_i i j
    cases e
    cases rx
    cases ry
    exact .inl ⟨i, j, rfl, rfl, q F H _ (Ext.refl sm) (.int _)⟩
  · rename_i xs ys
    split at e
    · rename_i h
      cases e
      cases rx with
      | lst h1 p1 =>
        cases ry with
        | lst h2 p2 =>
          have l1 := RpAll.length p1
          have l2 := RpAll.length p2
          refine .inr (.inl ⟨_, _, _, _, rfl, rfl, sm _ _ h1, sm _ _ h2, by omega, fun p np => ?_⟩)
          exact q _ _ _ (Ext.new sm np) (Rp.lst upd_same (RpAll.append (RpAll.mo p1 (Ext.new sm np).sF) (RpAll.mo p2 (Ext.new sm np).sF)))
    · cases e
  · rename_i xs ys
    split at e
    · rename_i h
      cases e
      cases rx with
      | tup h1 p1 =>
        cases ry with
        | tup h2 p2 =>
          have l1 := RpAll.length p1
          have l2 := RpAll.length p2
          refine .inr (.inr ⟨_, _, _, _, rfl, rfl, seqT sm h1, seqT sm h2, by omega, fun z => ?_, fun _ z => ?_, fun _ _ p np => ?_⟩)
          · subst z
            cases xs with
            | nil => exact q F H _ (Ext.refl sm) (Rp.tup h2 p2)
            | cons a b => cases p1
          · subst z
            cases ys with
            | nil =>
              rw [List.append_nil] at q
              exact q F H _ (Ext.refl sm) (Rp.tup h1 p1)
            | cons a b => cases p2
          · exact q _ _ _ (Ext.new sm np) (Rp.tup (SqT.of upd_same) (RpAll.append (RpAll.mo p1 (Ext.new sm np).sF) (RpAll.mo p2 (Ext.new sm np).sF)))
    · cases e
  · cases e
theorem we_add {a b : Expr} {ma mb : EM S} {pos : Pos} (ha : WE f own a ma) (hb : WE f own b mb) : WE f own (.BinOp a .Add b pos) (eOp2 dAdd ma mb) := by
  obtain ⟨ta, pa, da⟩ := ha.ex
  obtain ⟨tb, pb, db⟩ := hb.ex
  exact ⟨_, fun i => pe_op (f.hK i ▸ add_r (f.X i)) (pa i) (pb i), de_op opd_add da db⟩

theorem we_bin {op : Operator} {r : Frag → R2} {g : D → D → Option D} {a b : Expr} {ma mb : EM S} {pos : Pos} (ho : ∀ X : Cx, OpR X (binaryOp op) (r X.K)) (h : OpD f.K (r f.K) g) (ha : WE f own a ma) (hb : WE f own b mb) :
    WE f own (.BinOp a op b pos) (eOp2 g ma mb) := by
  obtain ⟨ta, pa, da⟩ := ha.ex
  obtain ⟨tb, pb, db⟩ := hb.ex
  exact ⟨_, fun i => pe_op (f.hK i ▸ ho (f.X i)) (pa i) (pb i), de_op h da db⟩
/-- - of ints -/
def dSub : D → D → Option D
  | .int i, .int j => some (.int (i - j))
  | _, _ => none
theorem opd_sub {K : Frag} : OpD K (rI0 fun i j => .int (i - j)) dSub := by
  intro F H x y dx dy d sm rx ry e Q q
  unfold dSub at e
  split at e
  · cases e
    cases rx
    cases ry
    exact ⟨_, _, rfl, rfl, q F H _ (Ext.refl sm) (.int _)⟩
  · cases e
theorem we_sub {a b : Expr} {ma mb : EM S} {pos : Pos} (ha : WE f own a ma) (hb : WE f own b mb) : WE f own (.BinOp a .Sub b pos) (eOp2 dSub ma mb) :=
  we_bin (r := fun _ => rI0 fun i j => .int (i - j)) (fun _ => op_sub) opd_sub ha hb
/-- * : ints (below a million bits), lists, tuples -/
def dMul : D → D → Option D
  | .int i, .int j => if i.natAbs.log2 + j.natAbs.log2 < 1000000 then some (.int (i * j)) else none
  | .list xs, .int k => if -(2 ^ 63) ≤ k ∧ k < 2 ^ 63 ∧ xs.length * k.toNat ≤ sizeLine then some (.list (List.replicate k.toNat xs).flatten) else none
  | .tuple xs, .int k => if xs.length ≤ 1000 ∧ 2 ≤ k ∧ k ≤ 1000 ∧ xs ≠ [] then some (.tuple (List.replicate k.toNat xs).flatten) else none
  | _, _ => none
def rMulX (K : Frag) : R2 := fun x y H Q => rI CMulW (fun i j => .int (i * j)) x y H Q ∨ rRep x y H Q ∨ rRepT K x y H Q
theorem mul_r (X : Cx) : OpR X (binaryOp .Mult) (rMulX X.K) := op_mulW.or (OpR.or op_rep op_repT)
theorem opd_mul {K : Frag} : OpD K (rMulX K) dMul := by
  intro F H x y dx dy d sm rx ry e Q q
  unfold dMul at e
  split at e
  · split at e
    · rename_i h
      cases e
      cases rx
      cases ry
      exact .inl ⟨_, _, rfl, rfl, h, q F H _ (Ext.refl sm) (.int _)⟩
    · cases e
  · split at e
    · rename_i h
      cases e
      cases rx with
      | lst h1 p1 =>
        cases ry
        have l1 := RpAll.length p1
        refine .inr (.inl ⟨_, _, _, rfl, rfl, sm _ _ h1, h.1, h.2.1, by rw [l1]; exact h.2.2, fun p np => ?_⟩)
        exact q _ _ _ (Ext.new sm np) (Rp.lst upd_same (RpAll.replicate (RpAll.mo p1 (Ext.new sm np).sF) _))
    · cases e
  · split at e
    · rename_i h
      cases e
      cases rx with
      | tup h1 p1 =>
        cases ry
        have l1 := RpAll.length p1
        refine .inr (.inr ⟨_, _, _, rfl, rfl, seqT sm h1, fun z => ?_, h.2.1, h.2.2.1, by rw [l1]; exact h.1, fun p np => ?_⟩)
        · subst z
          exact h.2.2.2 (List.eq_nil_of_length_eq_zero l1.symm)
        · exact q _ _ _ (Ext.new sm np) (Rp.tup (SqT.of upd_same) (RpAll.replicate (RpAll.mo p1 (Ext.new sm np).sF) _))
    · cases e
  · cases e
theorem we_mul {a b : Expr} {ma mb : EM S} {pos : Pos} (ha : WE f own a ma) (hb : WE f own b mb) : WE f own (.BinOp a .Mult b pos) (eOp2 dMul ma mb) :=
  we_bin mul_r opd_mul ha hb
/-- // by a positive int -/
def dDiv : D → D → Option D
  | .int i, .int j => if 0 < j ∧ j.natAbs.log2 < 9000 then some (.int (i / j)) else none
  | _, _ => none
theorem opd_ii {K : Frag} {C : Int → Int → Prop} [∀ i j, Decidable (C i j)] {g : Int → Int → Int} {h : D → D → Option D}
    (hh : ∀ x y d, h x y = some d → ∃ i j, x = .int i ∧ y = .int j ∧ C i j ∧ d = .int (g i j)) : OpD K (rI C fun i j => .int (g i j)) h := by
  intro F H x y dx dy d sm rx ry e Q q
  obtain ⟨i, j, rfl, rfl, c, rfl⟩ := hh _ _ _ e
  cases rx
  cases ry
  exact ⟨_, _, rfl, rfl, c, q F H _ (Ext.refl sm) (.int _)⟩
theorem opd_div {K : Frag} : OpD K (rI CDivW fun i j => .int (i / j)) dDiv := by
  intro F H x y dx dy d sm rx ry e Q q
  unfold dDiv at e
  split at e
  · split at e
    · rename_i h
      cases e
      cases rx
      cases ry
      exact ⟨_, _, rfl, rfl, h, q F H _ (Ext.refl sm) (.int _)⟩
    · cases e
  · cases e
theorem we_div {a b : Expr} {ma mb : EM S} {pos : Pos} (ha : WE f own a ma) (hb : WE f own b mb) : WE f own (.BinOp a .FloorDiv b pos) (eOp2 dDiv ma mb) :=
  we_bin (r := fun _ => rI CDivW fun i j => .int (i / j)) (fun _ => op_fdivW) opd_div ha hb
/-- % by a positive int -/
def dMod : D → D → Option D
  | .int i, .int j => if 0 < j then some (.int (i % j)) else none
  | _, _ => none
theorem opd_mod {K : Frag} : OpD K (rI (fun _ j => 0 < j) fun i j => .int (i % j)) dMod := by
  intro F H x y dx dy d sm rx ry e Q q
  unfold dMod at e
  split at e
  · split at e
    · rename_i h
      cases e
      cases rx
      cases ry
      exact ⟨_, _, rfl, rfl, h, q F H _ (Ext.refl sm) (.int _)⟩
    · cases e
  · cases e
theorem we_mod {a b : Expr} {ma mb : EM S} {pos : Pos} (ha : WE f own a ma) (hb : WE f own b mb) : WE f own (.BinOp a .Mod b pos) (eOp2 dMod ma mb) :=
  we_bin (r := fun _ => rI (fun _ j => 0 < j) fun i j => .int (i % j)) (fun _ => op_mod) opd_mod ha hb
/-- ** -/
def dPow : D → D → Option D
  | .int i, .int j => if 0 ≤ j ∧ j ≤ 1000000 ∧ i.natAbs < 2 ^ 64 then some (.int (i ^ j.toNat)) else none
  | _, _ => none
theorem opd_pow {K : Frag} : OpD K (rI CPow fun i j => .int (i ^ j.toNat)) dPow := by
  intro F H x y dx dy d sm rx ry e Q q
  unfold dPow at e
  split at e
  · split at e
    · rename_i h
      cases e
      cases rx
      cases ry
      exact ⟨_, _, rfl, rfl, h, q F H _ (Ext.refl sm) (.int _)⟩
    · cases e
  · cases e
theorem we_pow {a b : Expr} {ma mb : EM S} {pos : Pos} (ha : WE f own a ma) (hb : WE f own b mb) : WE f own (.BinOp a .Pow b pos) (eOp2 dPow ma mb) :=
  we_bin (r := fun _ => rI CPow fun i j => .int (i ^ j.toNat)) (fun _ => op_pow) opd_pow ha hb
/-- << -/
def dShl : D → D → Option D
  | .int i, .int j => if 0 ≤ j ∧ (Builtin.Int.intBits i : Int) + j ≤ 2 ^ 27 then some (.int (i * 2 ^ j.toNat)) else none
  | _, _ => none
theorem opd_shl {K : Frag} : OpD K (rI CShl fun i j => .int (i * 2 ^ j.toNat)) dShl := by
  intro F H x y dx dy d sm rx ry e Q q
  unfold dShl at e
  split at e
  · split at e
    · rename_i h
      cases e
      cases rx
      cases ry
      exact ⟨_, _, rfl, rfl, h, q F H _ (Ext.refl sm) (.int _)⟩
    · cases e
  · cases e
theorem we_shl {a b : Expr} {ma mb : EM S} {pos : Pos} (ha : WE f own a ma) (hb : WE f own b mb) : WE f own (.BinOp a .LShift b pos) (eOp2 dShl ma mb) :=
  we_bin (r := fun _ => rI CShl fun i j => .int (i * 2 ^ j.toNat)) (fun _ => op_shlW) opd_shl ha hb
/-- >> -/
def dShr : D → D → Option D
  | .int i, .int j => if 0 ≤ j then some (.int (i / 2 ^ j.toNat)) else none
  | _, _ => none
theorem opd_shr {K : Frag} : OpD K (rI (fun _ j => 0 ≤ j) fun i j => .int (i / 2 ^ j.toNat)) dShr := by
  intro F H x y dx dy d sm rx ry e Q q
  unfold dShr at e
  split at e
  · split at e
    · rename_i h
      cases e
      cases rx
      cases ry
      exact ⟨_, _, rfl, rfl, h, q F H _ (Ext.refl sm) (.int _)⟩
    · cases e
  · cases e
theorem we_shr {a b : Expr} {ma mb : EM S} {pos : Pos} (ha : WE f own a ma) (hb : WE f own b mb) : WE f own (.BinOp a .RShift b pos) (eOp2 dShr ma mb) :=
  we_bin (r := fun _ => rI (fun _ j => 0 ≤ j) fun i j => .int (i / 2 ^ j.toNat)) (fun _ => op_shr) opd_shr ha hb
/-- | and & -/
def dBor : D → D → Option D
  | .int i, .int j => some (.int (Builtin.bitOr i j))
  | _, _ => none
theorem opd_bor {K : Frag} : OpD K (rI0 fun i j => .int (Builtin.bitOr i j)) dBor := by
  intro F H x y dx dy d sm rx ry e Q q
  unfold dBor at e
  split at e
  · cases e
    cases rx
    cases ry
    exact ⟨_, _, rfl, rfl, q F H _ (Ext.refl sm) (.int _)⟩
  · cases e
theorem we_bor {a b : Expr} {ma mb : EM S} {pos : Pos} (ha : WE f own a ma) (hb : WE f own b mb) : WE f own (.BinOp a .BitOr b pos) (eOp2 dBor ma mb) :=
  we_bin (r := fun _ => rI0 fun i j => .int (Builtin.bitOr i j)) (fun _ => op_or) opd_bor ha hb
/-- -x -/
def dNeg : D → Option D
  | .int i => some (.int (-i))
  | _ => none
theorem und_neg {K : Frag} : UnD K (rU fun i => .int (-i)) dNeg := by
  intro F H x dx d sm rx e Q q
  unfold dNeg at e
  split at e
  · cases e
    cases rx
    exact ⟨_, rfl, q F H _ (Ext.refl sm) (.int _)⟩
  · cases e
theorem we_neg {a : Expr} {ma : EM S} {pos : Pos} (ha : WE f own a ma) : WE f own (.UnaryOp .USub a pos) (eOp1 dNeg ma) := by
  obtain ⟨ta, pa, da⟩ := ha.ex
  exact ⟨_, fun i => pe_un un_neg (pa i), de_un und_neg da⟩

/-! ### truth -/
def tru : D → Option Bool
  | .none => some false
  | .bool b => some b
  | .int i => some (i != 0)
  | .str x => if x.length ≤ sizeLine then some ((x.length : Int) != 0) else none
  | .list xs => some (!xs.isEmpty)
  | .tuple xs => some (!xs.isEmpty)
  | .dict _ => none
theorem isEmpty_rp {K : Frag} {F : Hp} {vs : List V} {ds : List D} (h : RpAll K F vs ds) : vs.isEmpty = ds.isEmpty := by
  have l := RpAll.length h
  cases vs <;> cases ds <;> first | rfl | (simp at l)
theorem truV {K : Frag} {F H : Hp} {v : V} {d : D} {b : Bool} (h : Rp K F v d) (sm : Same F H) (e : tru d = some b) : TruV K v H b := by
  cases h with
  | non => cases e; rfl
  | bl x => cases e; rfl
  | int i => cases e; rfl
  | str x =>
    unfold tru at e
    dsimp only at e
    split at e
    · rename_i hz
      cases e
      exact ⟨hz, rfl⟩
    · cases e
  | lst h1 p1 => cases e; exact .inl ⟨_, SqL.of (sm _ _ h1), by rw [isEmpty_rp p1]⟩
  | tup h1 p1 => cases e; exact .inr (.inl ⟨_, seqT sm h1, by rw [isEmpty_rp p1]⟩)
def tTr (m : EM S) : TM S := fun ρ s => bnd (m ρ s) fun d s1 => (tru d).bind fun b => some (b, s1)
theorem wt_truth {a : Expr} {m : EM S} (ha : WE f own a m) (he : ∀ i, ∀ whole, isTrue a (f.X i).env whole = (do let v ← whole; standAt a.pos; holding [v] (truthy v)) := by intro _ _; rfl) : WT f own a (tTr m) := by
  obtain ⟨ta, pa, da⟩ := ha.ex
  refine ⟨fun σ H Q => ta σ H fun x H' => ∃ k, TruV f.K x H' k ∧ Q k H', fun i => f.hK i ▸ pt_truth (pa i) (he i), ?_⟩
  intro F0 H0 F H ρ s σ st b s' e Q q
  obtain ⟨d, s1, e1, e⟩ := bnd_some e
  obtain ⟨c, e2, e⟩ := bind_some e
  cases e
  refine da _ _ _ _ _ _ _ st d _ e1 _ fun F1 H1 v E1 r1 p1 => ?_
  exact ⟨b, truV p1 E1.sub e2, q F1 H1 E1 r1⟩
def eNot (m : EM S) : EM S := fun ρ s => bnd (m ρ s) fun d s1 => (tru d).bind fun b => some (.bool (!b), s1)
theorem we_not {a : Expr} {m : EM S} {pos : Pos} (ha : WE f own a m) : WE f own (.UnaryOp .Not a pos) (eNot m) := by
  obtain ⟨ta, pa, da⟩ := ha.ex
  refine ⟨tNotT f.K ta, fun i => f.hK i ▸ pe_notT (pa i), ?_⟩
  intro F0 H0 F H ρ s σ st d' s' e Q q
  obtain ⟨d, s1, e1, e⟩ := bnd_some e
  obtain ⟨c, e2, e⟩ := bind_some e
  cases e
  refine da _ _ _ _ _ _ _ st d _ e1 _ fun F1 H1 v E1 r1 p1 => ?_
  exact ⟨c, truV p1 E1.sub e2, q F1 H1 _ E1 r1 (.bl _)⟩
def eAnd (a b : EM S) : EM S := fun ρ s => bnd (a ρ s) fun x s1 => (tru x).bind fun k => if k = true then b ρ s1 else some (x, s1)
def eOr (a b : EM S) : EM S := fun ρ s => bnd (a ρ s) fun x s1 => (tru x).bind fun k => if k = true then some (x, s1) else b ρ s1
theorem we_one {op} {a : Expr} {m : EM S} {pos : Pos} (ha : WE f own a m) : WE f own (.BoolOp op [a] pos) m := by
  obtain ⟨ta, pa, da⟩ := ha.ex
  exact ⟨ta, fun i => pe_one (pa i), da⟩
theorem we_and {a b : Expr} {rest : List Expr} {ma mb : EM S} {pos : Pos} (ha : WE f own a ma) (hb : WE f own (.BoolOp .And (b :: rest) pos) mb) : WE f own (.BoolOp .And (a :: b :: rest) pos) (eAnd ma mb) := by
  obtain ⟨ta, pa, da⟩ := ha.ex
  obtain ⟨tb, pb, db⟩ := hb.ex
  refine ⟨tAndT f.K ta tb, fun i => f.hK i ▸ pe_andT (pa i) (pb i), ?_⟩
  intro F0 H0 F H ρ s σ st d' s' e Q q
  obtain ⟨d, s1, e1, e⟩ := bnd_some e
  obtain ⟨c, e2, e⟩ := bind_some e
  refine da _ _ _ _ _ _ _ st d _ e1 _ fun F1 H1 v E1 r1 p1 => ?_
  refine ⟨c, truV p1 E1.sub e2, ?_⟩
  split
  · rename_i h
    rw [if_pos h] at e
    exact db _ _ _ _ _ _ _ (st.next E1 r1) d' s' e _ fun F2 H2 u E2 r2 p2 => q F2 H2 u (E1.trans E2) r2 p2
  · rename_i h
    rw [if_neg h] at e
    cases e
    exact q F1 H1 v E1 r1 p1
theorem we_or {a b : Expr} {rest : List Expr} {ma mb : EM S} {pos : Pos} (ha : WE f own a ma) (hb : WE f own (.BoolOp .Or (b :: rest) pos) mb) : WE f own (.BoolOp .Or (a :: b :: rest) pos) (eOr ma mb) := by
  obtain ⟨ta, pa, da⟩ := ha.ex
  obtain ⟨tb, pb, db⟩ := hb.ex
  refine ⟨tOrT f.K ta tb, fun i => f.hK i ▸ pe_orT (pa i) (pb i), ?_⟩
  intro F0 H0 F H ρ s σ st d' s' e Q q
  obtain ⟨d, s1, e1, e⟩ := bnd_some e
  obtain ⟨c, e2, e⟩ := bind_some e
  refine da _ _ _ _ _ _ _ st d _ e1 _ fun F1 H1 v E1 r1 p1 => ?_
  refine ⟨c, truV p1 E1.sub e2, ?_⟩
  split
  · rename_i h
    rw [if_pos h] at e
    cases e
    exact q F1 H1 v E1 r1 p1
  · rename_i h
    rw [if_neg h] at e
    exact db _ _ _ _ _ _ _ (st.next E1 r1) d' s' e _ fun F2 H2 u E2 r2 p2 => q F2 H2 u (E1.trans E2) r2 p2

/-! ### tests -/
def tAn (a b : TM S) : TM S := fun ρ s => bnd (a ρ s) fun k s1 => if k = true then b ρ s1 else some (false, s1)
def tOo (a b : TM S) : TM S := fun ρ s => bnd (a ρ s) fun k s1 => if k = true then some (true, s1) else b ρ s1
def tNo (a : TM S) : TM S := fun ρ s => bnd (a ρ s) fun k s1 => some (!k, s1)
theorem ww_and1 {a : Expr} {m : TM S} {pos : Pos} (ha : WT f own a m) : WW f own (.BoolOp .And [a] pos) m := by
  obtain ⟨ta, pa, da⟩ := ha.ex
  exact ⟨ta, fun i => pw_and1 (pa i), da⟩
theorem ww_or1 {a : Expr} {m : TM S} {pos : Pos} (ha : WT f own a m) : WW f own (.BoolOp .Or [a] pos) m := by
  obtain ⟨ta, pa, da⟩ := ha.ex
  exact ⟨ta, fun i => pw_or1 (pa i), da⟩
theorem ww_and {a b : Expr} {rest : List Expr} {ma mb : TM S} {pos : Pos} (ha : WT f own a ma) (hb : WW f own (.BoolOp .And (b :: rest) pos) mb) : WW f own (.BoolOp .And (a :: b :: rest) pos) (tAn ma mb) := by
  obtain ⟨ta, pa, da⟩ := ha.ex
  obtain ⟨tb, pb, db⟩ := hb.ex
  refine ⟨_, fun i => pw_and (pa i) (pb i), ?_⟩
  intro F0 H0 F H ρ s σ st b' s' e Q q
  obtain ⟨k, s1, e1, e⟩ := bnd_some e
  refine da _ _ _ _ _ _ _ st k s1 e1 _ fun F1 H1 E1 r1 => ?_
  cases k with
  | true => exact iteT (db _ _ _ _ _ _ _ (st.next E1 r1) b' s' e _ fun F2 H2 E2 r2 => q F2 H2 (E1.trans E2) r2)
  | false => cases e; exact iteF (q F1 H1 E1 r1)
theorem ww_or {a b : Expr} {rest : List Expr} {ma mb : TM S} {pos : Pos} (ha : WT f own a ma) (hb : WW f own (.BoolOp .Or (b :: rest) pos) mb) : WW f own (.BoolOp .Or (a :: b :: rest) pos) (tOo ma mb) := by
  obtain ⟨ta, pa, da⟩ := ha.ex
  obtain ⟨tb, pb, db⟩ := hb.ex
  refine ⟨_, fun i => pw_or (pa i) (pb i), ?_⟩
  intro F0 H0 F H ρ s σ st b' s' e Q q
  obtain ⟨k, s1, e1, e⟩ := bnd_some e
  refine da _ _ _ _ _ _ _ st k s1 e1 _ fun F1 H1 E1 r1 => ?_
  cases k with
  | false => exact iteF (db _ _ _ _ _ _ _ (st.next E1 r1) b' s' e _ fun F2 H2 E2 r2 => q F2 H2 (E1.trans E2) r2)
  | true => cases e; exact iteT (q F1 H1 E1 r1)
theorem wt_w {a : Expr} {m : TM S} (ha : WW f own a m) : WT f own a m := by
  obtain ⟨ta, pa, da⟩ := ha.ex
  exact ⟨ta, fun i => (pa i).pt, da⟩
theorem wt_not {a : Expr} {m : TM S} {pos : Pos} (ha : WT f own a m) : WT f own (.UnaryOp .Not a pos) (tNo m) := by
  obtain ⟨ta, pa, da⟩ := ha.ex
  refine ⟨_, fun i => pt_not (pa i), ?_⟩
  intro F0 H0 F H ρ s σ st b' s' e Q q
  obtain ⟨k, s1, e1, e⟩ := bnd_some e
  cases e
  exact da _ _ _ _ _ _ _ st k _ e1 _ fun F1 H1 E1 r1 => q F1 H1 E1 r1
/-- a value that is a bool, as a test -/
def tOf (m : EM S) : TM S := fun ρ s => bnd (m ρ s) fun d s1 => match d with
  | .bool b => some (b, s1)
  | _ => none
theorem dt_test {t : TE} {m : EM S} (h : DE f own t m) : DT f own (tTest t) (tOf m) := by
  intro F0 H0 F H ρ s σ st b' s' e Q q
  obtain ⟨d, s1, e1, e⟩ := bnd_some e
  split at e
  · cases e
    refine h _ _ _ _ _ _ _ st _ _ e1 _ fun F1 H1 v E1 r1 p1 => ?_
    cases p1
    exact ⟨_, rfl, q F1 H1 E1 r1⟩
  · cases e
theorem we_cmp {op : CmpOp} {r : Frag → R2} {g : D → D → Option D} {a b : Expr} {ma mb : EM S} {pos : Pos} (ho : ∀ i, OpR (f.X i) (compareOp op) (r (f.X i).K)) (h : OpD f.K (r f.K) g) (ha : WE f own a ma) (hb : WE f own b mb)
    (hm : behindInMarks op b = false) : WE f own (.Compare a [op] [b] pos) (eOp2 g ma mb) := by
  obtain ⟨ta, pa, da⟩ := ha.ex
  obtain ⟨tb, pb, db⟩ := hb.ex
  exact ⟨_, fun i => pe_cmpR (f.hK i ▸ ho i) (pa i) (pb i) hm, de_op h da db⟩
theorem wt_cmp {op : CmpOp} {r : Frag → R2} {g : D → D → Option D} {a b : Expr} {ma mb : EM S} {pos : Pos} (ho : ∀ i, OpR (f.X i) (compareOp op) (r (f.X i).K)) (h : OpD f.K (r f.K) g) (ha : WE f own a ma) (hb : WE f own b mb)
    (hm : behindInMarks op b = false) : WT f own (.Compare a [op] [b] pos) (tOf (eOp2 g ma mb)) := by
  obtain ⟨ta, pa, da⟩ := ha.ex
  obtain ⟨tb, pb, db⟩ := hb.ex
  exact ⟨_, fun i => pt_cmpR (f.hK i ▸ ho i) (pa i) (pb i) hm, dt_test (de_op h da db)⟩
def eChain (g g' : D → D → Option D) (a b c : EM S) : EM S := fun ρ s => bnd (a ρ s) fun x s1 => bnd (b ρ s1) fun y s2 => (g x y).bind fun z => match z with
  | .bool true => bnd (c ρ s2) fun w s3 => (g' y w).bind fun z' => some (z', s3)
  | .bool false => some (.bool false, s2)
  | _ => none
theorem de_chain {r r' : R2} {g g' : D → D → Option D} {ta tb tc : TE} {a b c : EM S} (h : OpD f.K r g) (h' : OpD f.K r' g') (ha : DE f own ta a) (hb : DE f own tb b) (hc : DE f own tc c) : DE f own (tChain r r' ta tb tc) (eChain g g' a b c) := by
  intro F0 H0 F H ρ s σ st d s' e Q q
  obtain ⟨x, s1, e1, e⟩ := bnd_some e
  obtain ⟨y, s2, e2, e⟩ := bnd_some e
  obtain ⟨z, e3, e⟩ := bind_some e
  refine ha _ _ _ _ _ _ _ st x s1 e1 _ fun F1 H1 v E1 r1 p1 => ?_
  refine hb _ _ _ _ _ _ _ (st.next E1 r1) y _ e2 _ fun F2 H2 u E2 r2 p2 => ?_
  refine h F2 H2 v u x y z E2.sub (Rp.mo p1 E2.sF) p2 e3 _ fun F3 H3 z' E3 p3 => ?_
  have E := (E1.trans E2).trans E3.weak
  have r3 := f.A.ext r2 E3
  split at e
  · obtain ⟨w, s3, e4, e⟩ := bnd_some e
    obtain ⟨z2, e5, e⟩ := bind_some e
    cases e
    cases p3
    refine ⟨true, rfl, iteT ?_⟩
    refine hc _ _ _ _ _ _ _ (st.next E r3) w _ e4 _ fun F4 H4 v4 E4 r4 p4 => ?_
    refine h' F4 H4 u v4 y w d E4.sub (Rp.mo p2 (E3.sF.trans E4.sF)) p4 e5 _ fun F5 H5 v5 E5 p5 => ?_
    exact q F5 H5 v5 ((E.trans E4).trans E5.weak) (f.A.ext r4 E5) p5
  · cases e
    cases p3
    exact ⟨false, rfl, iteF (q F3 H3 _ E r3 (.bl false))⟩
  · cases e
theorem we_chain {op op' : CmpOp} {r r' : Frag → R2} {g g' : D → D → Option D} {a b c : Expr} {ma mb mc : EM S} {pos : Pos} (ho : ∀ i, OpR (f.X i) (compareOp op) (r (f.X i).K)) (ho' : ∀ i, OpR (f.X i) (compareOp op') (r' (f.X i).K)) (h : OpD f.K (r f.K) g) (h' : OpD f.K (r' f.K) g')
    (ha : WE f own a ma) (hb : WE f own b mb) (hc : WE f own c mc) (hm : lastMarks [op, op'] [b, c] = false := by with_unfolding_all rfl) : WE f own (.Compare a [op, op'] [b, c] pos) (eChain g g' ma mb mc) := by
  obtain ⟨ta, pa, da⟩ := ha.ex
  obtain ⟨tb, pb, db⟩ := hb.ex
  obtain ⟨tc, pc, dc⟩ := hc.ex
  exact ⟨_, fun i => pe_chain (f.hK i ▸ ho i) (f.hK i ▸ ho' i) (pa i) (pb i) (pc i) hm, de_chain h h' da db dc⟩
theorem wt_chain {op op' : CmpOp} {r r' : Frag → R2} {g g' : D → D → Option D} {a b c : Expr} {ma mb mc : EM S} {pos : Pos} (ho : ∀ i, OpR (f.X i) (compareOp op) (r (f.X i).K)) (ho' : ∀ i, OpR (f.X i) (compareOp op') (r' (f.X i).K)) (h : OpD f.K (r f.K) g) (h' : OpD f.K (r' f.K) g')
    (ha : WE f own a ma) (hb : WE f own b mb) (hc : WE f own c mc) (hm : lastMarks [op, op'] [b, c] = false := by with_unfolding_all rfl) : WT f own (.Compare a [op, op'] [b, c] pos) (tOf (eChain g g' ma mb mc)) := by
  obtain ⟨ta, pa, da⟩ := ha.ex
  obtain ⟨tb, pb, db⟩ := hb.ex
  obtain ⟨tc, pc, dc⟩ := hc.ex
  exact ⟨_, fun i => pt_chain (f.hK i ▸ ho i) (f.hK i ▸ ho' i) (pa i) (pb i) (pc i) hm, dt_test (de_chain h h' da db dc)⟩
/-! the comparisons: ints; other data that are alike -/
def ordOk (x y : D) : Bool := PySem.W.alike x y && (match x with | .none => false | _ => true) && decide (x.depth ≤ 64)
def dLt : D → D → Option D
  | .int i, .int j => some (.bool (decide (i < j)))
  | x, y => if ordOk x y = true then some (.bool (PySem.W.dataLt x y)) else none
def dLe : D → D → Option D
  | .int i, .int j => some (.bool (decide (i ≤ j)))
  | x, y => if ordOk x y = true then some (.bool (!PySem.W.dataLt y x)) else none
def dGt : D → D → Option D
  | .int i, .int j => some (.bool (decide (j < i)))
  | x, y => if ordOk x y = true then some (.bool (PySem.W.dataLt y x)) else none
def dGe : D → D → Option D
  | .int i, .int j => some (.bool (decide (j ≤ i)))
  | x, y => if ordOk x y = true then some (.bool (!PySem.W.dataLt x y)) else none
def rOrd (K : Frag) (g : D → D → Bool) : R2 := fun x y H Q => ∃ d e, Dp K H x d ∧ Dp K H y e ∧ ordOk d e = true ∧ Q (.bl (g d e)) H
theorem ordOk_is {d e : D} (h : ordOk d e = true) : PySem.W.alike d e = true ∧ d ≠ .none ∧ d.depth ≤ 64 := by
  unfold ordOk at h
  rw [Bool.and_eq_true, Bool.and_eq_true, decide_eq_true_iff] at h
  exact ⟨h.1.1, fun z => by rw [z] at h; exact Bool.false_ne_true h.1.2, h.2⟩
section
variable {X : Cx}
theorem op_ltD (hu : X.A.units + 64 < cLine) : OpR X (compareOp .Lt) (rOrd X.K PySem.W.dataLt) := by
  intro pins s σ H x y v u Q I rx ry h
  obtain ⟨d, e, hd, he, ok, q⟩ := h
  obtain ⟨h1, h2, h3⟩ := ordOk_is ok
  obtain ⟨as, r1⟩ := Dp.reads I d x v hd rx
  obtain ⟨bs, r2⟩ := Dp.reads I e y u he ry
  exact PySem.W.lt_data r1 r2 h1 h2 (by omega) ⟨.bl _, H, I, rfl, q⟩
theorem op_gtD (hu : X.A.units + 64 < cLine) : OpR X (compareOp .Gt) (rOrd X.K fun d e => PySem.W.dataLt e d) := by
  intro pins s σ H x y v u Q I rx ry h
  obtain ⟨d, e, hd, he, ok, q⟩ := h
  obtain ⟨h1, h2, h3⟩ := ordOk_is ok
  obtain ⟨as, r1⟩ := Dp.reads I d x v hd rx
  obtain ⟨bs, r2⟩ := Dp.reads I e y u he ry
  exact PySem.W.gt_data r1 r2 h1 h2 (by omega) ⟨.bl _, H, I, rfl, q⟩
theorem op_leD (hu : X.A.units + 64 < cLine) : OpR X (compareOp .LtE) (rOrd X.K fun d e => !PySem.W.dataLt e d) := by
  intro pins s σ H x y v u Q I rx ry h
  obtain ⟨d, e, hd, he, ok, q⟩ := h
  obtain ⟨h1, h2, h3⟩ := ordOk_is ok
  obtain ⟨as, r1⟩ := Dp.reads I d x v hd rx
  obtain ⟨bs, r2⟩ := Dp.reads I e y u he ry
  exact PySem.W.le_data r1 r2 h1 h2 (by omega) ⟨.bl _, H, I, rfl, q⟩
theorem op_geD (hu : X.A.units + 64 < cLine) : OpR X (compareOp .GtE) (rOrd X.K fun d e => !PySem.W.dataLt d e) := by
  intro pins s σ H x y v u Q I rx ry h
  obtain ⟨d, e, hd, he, ok, q⟩ := h
  obtain ⟨h1, h2, h3⟩ := ordOk_is ok
  obtain ⟨as, r1⟩ := Dp.reads I d x v hd rx
  obtain ⟨bs, r2⟩ := Dp.reads I e y u he ry
  exact PySem.W.ge_data r1 r2 h1 h2 (by omega) ⟨.bl _, H, I, rfl, q⟩
def rLtA (K : Frag) : R2 := fun x y H Q => rI0 (fun i j => .bl (decide (i < j))) x y H Q ∨ rOrd K (PySem.W.dataLt) x y H Q
theorem op_ltA (hu : X.A.units + 64 < cLine) : OpR X (compareOp .Lt) (rLtA X.K) := OpR.or op_lt (op_ltD hu)
def rLeA (K : Frag) : R2 := fun x y H Q => rI0 (fun i j => .bl (decide (i ≤ j))) x y H Q ∨ rOrd K (fun d e => !PySem.W.dataLt e d) x y H Q
theorem op_leA (hu : X.A.units + 64 < cLine) : OpR X (compareOp .LtE) (rLeA X.K) := OpR.or op_le (op_leD hu)
def rGtA (K : Frag) : R2 := fun x y H Q => rI0 (fun i j => .bl (decide (j < i))) x y H Q ∨ rOrd K (fun d e => PySem.W.dataLt e d) x y H Q
theorem op_gtA (hu : X.A.units + 64 < cLine) : OpR X (compareOp .Gt) (rGtA X.K) := OpR.or op_gt (op_gtD hu)
def rGeA (K : Frag) : R2 := fun x y H Q => rI0 (fun i j => .bl (decide (j ≤ i))) x y H Q ∨ rOrd K (fun d e => !PySem.W.dataLt d e) x y H Q
theorem op_geA (hu : X.A.units + 64 < cLine) : OpR X (compareOp .GtE) (rGeA X.K) := OpR.or op_ge (op_geD hu)
end
theorem opd_lt {K : Frag} : OpD K (rLtA K) dLt := by
  intro F H x y dx dy d sm rx ry e Q q
  unfold dLt at e
  split at e
  · cases e; cases rx; cases ry; exact .inl ⟨_, _, rfl, rfl, q F H _ (Ext.refl sm) (.bl _)⟩
  · split at e
    · rename_i h
      cases e
      exact .inr ⟨_, _, rp_dp _ _ (Rp.mo rx sm), rp_dp _ _ (Rp.mo ry sm), h, q F H _ (Ext.refl sm) (.bl _)⟩
    · cases e
theorem opd_le {K : Frag} : OpD K (rLeA K) dLe := by
  intro F H x y dx dy d sm rx ry e Q q
  unfold dLe at e
  split at e
  · cases e; cases rx; cases ry; exact .inl ⟨_, _, rfl, rfl, q F H _ (Ext.refl sm) (.bl _)⟩
  · split at e
    · rename_i h
      cases e
      exact .inr ⟨_, _, rp_dp _ _ (Rp.mo rx sm), rp_dp _ _ (Rp.mo ry sm), h, q F H _ (Ext.refl sm) (.bl _)⟩
    · cases e
theorem opd_gt {K : Frag} : OpD K (rGtA K) dGt := by
  intro F H x y dx dy d sm rx ry e Q q
  unfold dGt at e
  split at e
  · cases e; cases rx; cases ry; exact .inl ⟨_, _, rfl, rfl, q F H _ (Ext.refl sm) (.bl _)⟩
  · split at e
    · rename_i h
      cases e
      exact .inr ⟨_, _, rp_dp _ _ (Rp.mo rx sm), rp_dp _ _ (Rp.mo ry sm), h, q F H _ (Ext.refl sm) (.bl _)⟩
    · cases e
theorem opd_ge {K : Frag} : OpD K (rGeA K) dGe := by
  intro F H x y dx dy d sm rx ry e Q q
  unfold dGe at e
  split at e
  · cases e; cases rx; cases ry; exact .inl ⟨_, _, rfl, rfl, q F H _ (Ext.refl sm) (.bl _)⟩
  · split at e
    · rename_i h
      cases e
      exact .inr ⟨_, _, rp_dp _ _ (Rp.mo rx sm), rp_dp _ _ (Rp.mo ry sm), h, q F H _ (Ext.refl sm) (.bl _)⟩
    · cases e
def dEq (x y : D) : Option D := if SeqAt.shaped x = true ∧ SeqAt.shaped y = true then some (.bool (PyData.eqv x y)) else none
def dNe (x y : D) : Option D := if SeqAt.shaped x = true ∧ SeqAt.shaped y = true then some (.bool (!PyData.eqv x y)) else none
theorem opd_eq {K : Frag} : OpD K (rEqD K) dEq := by
  intro F H x y dx dy d sm rx ry e Q q
  unfold dEq at e
  split at e
  · rename_i h
    cases e
    exact ⟨dx, dy, rp_dp _ _ (Rp.mo rx sm), rp_dp _ _ (Rp.mo ry sm), h.1, h.2, q F H _ (Ext.refl sm) (.bl _)⟩
  · cases e
theorem opd_ne {K : Frag} : OpD K (rNeD K) dNe := by
  intro F H x y dx dy d sm rx ry e Q q
  unfold dNe at e
  split at e
  · rename_i h
    cases e
    exact ⟨dx, dy, rp_dp _ _ (Rp.mo rx sm), rp_dp _ _ (Rp.mo ry sm), h.1, h.2, q F H _ (Ext.refl sm) (.bl _)⟩
  · cases e
/-- is, is not: None, bools -/
def dIs : D → D → Option D
  | .none, .none => some (.bool true)
  | _, .none => some (.bool false)
  | .bool a, .bool b => some (.bool (decide (a = b)))
  | _, _ => none
def dIsn : D → D → Option D
  | .none, .none => some (.bool false)
  | _, .none => some (.bool true)
  | .bool a, .bool b => some (.bool (!decide (a = b)))
  | _, _ => none
def rIsX : R2 := fun x y H Q => (y = .non ∧ Q (.bl (decide (x = .non))) H) ∨ rIsB x y H Q
def rIsnX : R2 := fun x y H Q => (y = .non ∧ Q (.bl (!decide (x = .non))) H) ∨ rNotB x y H Q
theorem opd_is {K : Frag} : OpD K rIsX dIs := by
  intro F H x y dx dy d sm rx ry e Q q
  have t0 := fun b => q F H (.bl b) (Ext.refl sm)
  unfold dIs at e
  split at e
  · cases e; cases rx; cases ry; exact .inl ⟨rfl, t0 _ (.bl _)⟩
  · rename_i z
    cases e; cases ry
    refine .inl ⟨rfl, ?_⟩
    have : decide (x = V.non) = false := decide_eq_false fun w => by subst w; cases rx; exact z rfl
    rw [this]; exact t0 _ (.bl _)
  · cases e; cases rx; cases ry; exact .inr ⟨_, _, rfl, rfl, t0 _ (.bl _)⟩
  · cases e
theorem opd_isn {K : Frag} : OpD K rIsnX dIsn := by
  intro F H x y dx dy d sm rx ry e Q q
  have t0 := fun b => q F H (.bl b) (Ext.refl sm)
  unfold dIsn at e
  split at e
  · cases e; cases rx; cases ry; exact .inl ⟨rfl, t0 _ (.bl _)⟩
  · rename_i z
    cases e; cases ry
    refine .inl ⟨rfl, ?_⟩
    have : decide (x = V.non) = false := decide_eq_false fun w => by subst w; cases rx; exact z rfl
    rw [this]; exact t0 _ (.bl _)
  · cases e; cases rx; cases ry; exact .inr ⟨_, _, rfl, rfl, t0 _ (.bl _)⟩
  · cases e
/-! each comparison by its name -/
section
variable {a b : Expr} {ma mb : EM S} {pos : Pos}
theorem room_u (i : f.ι) : (f.X i).A.units + 64 < cLine := (f.room i).units
theorem we_lt (ha : WE f own a ma) (hb : WE f own b mb) : WE f own (.Compare a [.Lt] [b] pos) (eOp2 dLt ma mb) := we_cmp (r := rLtA) (fun i => op_ltA (room_u i)) opd_lt ha hb (nomark _)
theorem we_le (ha : WE f own a ma) (hb : WE f own b mb) : WE f own (.Compare a [.LtE] [b] pos) (eOp2 dLe ma mb) := we_cmp (r := rLeA) (fun i => op_leA (room_u i)) opd_le ha hb (nomark _)
theorem we_gt (ha : WE f own a ma) (hb : WE f own b mb) : WE f own (.Compare a [.Gt] [b] pos) (eOp2 dGt ma mb) := we_cmp (r := rGtA) (fun i => op_gtA (room_u i)) opd_gt ha hb (nomark _)
theorem we_ge (ha : WE f own a ma) (hb : WE f own b mb) : WE f own (.Compare a [.GtE] [b] pos) (eOp2 dGe ma mb) := we_cmp (r := rGeA) (fun i => op_geA (room_u i)) opd_ge ha hb (nomark _)
theorem we_eq (ha : WE f own a ma) (hb : WE f own b mb) : WE f own (.Compare a [.Eq] [b] pos) (eOp2 dEq ma mb) := we_cmp (r := rEqD) (fun i => op_eqD (room_u i)) opd_eq ha hb (nomark _)
theorem we_ne (ha : WE f own a ma) (hb : WE f own b mb) : WE f own (.Compare a [.NotEq] [b] pos) (eOp2 dNe ma mb) := we_cmp (r := rNeD) (fun i => op_neD (room_u i)) opd_ne ha hb (nomark _)
theorem we_is (ha : WE f own a ma) (hb : WE f own b mb) : WE f own (.Compare a [.Is] [b] pos) (eOp2 dIs ma mb) := we_cmp (r := fun _ => rIsX) (fun _ => op_isN.or op_isBl) opd_is ha hb (nomark _)
theorem we_isn (ha : WE f own a ma) (hb : WE f own b mb) : WE f own (.Compare a [.IsNot] [b] pos) (eOp2 dIsn ma mb) := we_cmp (r := fun _ => rIsnX) (fun _ => op_notN.or op_notBl) opd_isn ha hb (nomark _)
theorem wt_lt (ha : WE f own a ma) (hb : WE f own b mb) : WT f own (.Compare a [.Lt] [b] pos) (tOf (eOp2 dLt ma mb)) := wt_cmp (r := rLtA) (fun i => op_ltA (room_u i)) opd_lt ha hb (nomark _)
theorem wt_le (ha : WE f own a ma) (hb : WE f own b mb) : WT f own (.Compare a [.LtE] [b] pos) (tOf (eOp2 dLe ma mb)) := wt_cmp (r := rLeA) (fun i => op_leA (room_u i)) opd_le ha hb (nomark _)
theorem wt_gt (ha : WE f own a ma) (hb : WE f own b mb) : WT f own (.Compare a [.Gt] [b] pos) (tOf (eOp2 dGt ma mb)) := wt_cmp (r := rGtA) (fun i => op_gtA (room_u i)) opd_gt ha hb (nomark _)
theorem wt_ge (ha : WE f own a ma) (hb : WE f own b mb) : WT f own (.Compare a [.GtE] [b] pos) (tOf (eOp2 dGe ma mb)) := wt_cmp (r := rGeA) (fun i => op_geA (room_u i)) opd_ge ha hb (nomark _)
theorem wt_eq (ha : WE f own a ma) (hb : WE f own b mb) : WT f own (.Compare a [.Eq] [b] pos) (tOf (eOp2 dEq ma mb)) := wt_cmp (r := rEqD) (fun i => op_eqD (room_u i)) opd_eq ha hb (nomark _)
theorem wt_ne (ha : WE f own a ma) (hb : WE f own b mb) : WT f own (.Compare a [.NotEq] [b] pos) (tOf (eOp2 dNe ma mb)) := wt_cmp (r := rNeD) (fun i => op_neD (room_u i)) opd_ne ha hb (nomark _)
theorem wt_is (ha : WE f own a ma) (hb : WE f own b mb) : WT f own (.Compare a [.Is] [b] pos) (tOf (eOp2 dIs ma mb)) := wt_cmp (r := fun _ => rIsX) (fun _ => op_isN.or op_isBl) opd_is ha hb (nomark _)
theorem wt_isn (ha : WE f own a ma) (hb : WE f own b mb) : WT f own (.Compare a [.IsNot] [b] pos) (tOf (eOp2 dIsn ma mb)) := wt_cmp (r := fun _ => rIsnX) (fun _ => op_notN.or op_notBl) opd_isn ha hb (nomark _)
end

/-! ### a if t else b -/
def eIf (t : TM S) (a b : EM S) : EM S := fun ρ s => bnd (t ρ s) fun k s1 => if k = true then a ρ s1 else b ρ s1
theorem we_if {c a b : Expr} {mc : TM S} {ma mb : EM S} {pos : Pos} (hc : WT f own c mc) (ha : WE f own a ma) (hb : WE f own b mb) : WE f own (.IfExp c a b pos) (eIf mc ma mb) := by
  obtain ⟨tc, pc, dc⟩ := hc.ex
  obtain ⟨ta, pa, da⟩ := ha.ex
  obtain ⟨tb, pb, db⟩ := hb.ex
  refine ⟨_, fun i => pe_ifExp (pc i) (pa i) (pb i), ?_⟩
  intro F0 H0 F H ρ s σ st d s' e Q q
  obtain ⟨k, s1, e1, e⟩ := bnd_some e
  refine dc _ _ _ _ _ _ _ st k s1 e1 _ fun F1 H1 E1 r1 => ?_
  cases k with
  | true => exact iteT (da _ _ _ _ _ _ _ (st.next E1 r1) d s' e _ fun F2 H2 u E2 r2 p2 => q F2 H2 u (E1.trans E2) r2 p2)
  | false => exact iteF (db _ _ _ _ _ _ _ (st.next E1 r1) d s' e _ fun F2 H2 u E2 r2 p2 => q F2 H2 u (E1.trans E2) r2 p2)

/-! ### argument lists, displays -/
def lNil : LM S := fun _ s => some ([], s)
def lCons (a : EM S) (r : LM S) : LM S := fun ρ s => bnd (a ρ s) fun x s1 => bnd (r ρ s1) fun xs s2 => some (x :: xs, s2)
theorem wa_nil : WA f own [] lNil := by
  refine ⟨⟨_, fun _ => pa_nil, ?_⟩, fun ρ s ds s' e => by cases e; rfl⟩
  intro F0 H0 F H ρ s σ st d s' e Q q
  cases e
  exact q F H [] (Ext.refl st.sub) st.rel .nil
theorem wa_cons {e : Expr} {es : List Expr} {m : EM S} {r : LM S} (he : WE f own e m) (hr : WA f own es r) (hs : ∀ i, starEach (e :: es) (f.X i).env = (false, eval e (f.X i).env) :: starEach es (f.X i).env := by intro _; rfl) : WA f own (e :: es) (lCons m r) := by
  obtain ⟨ta, pa, da⟩ := he.ex
  obtain ⟨tb, pb, db⟩ := hr.ex
  refine ⟨⟨_, fun i => pa_cons (pa i) (pb i) (hs i), ?_⟩, fun ρ s ds s' e => by
    obtain ⟨x, s1, e1, e⟩ := bnd_some e
    obtain ⟨xs, s2, e2, e⟩ := bnd_some e
    cases e
    rw [List.length_cons, List.length_cons, hr.len _ _ _ _ e2]⟩
  intro F0 H0 F H ρ s σ st d s' e Q q
  obtain ⟨x, s1, e1, e⟩ := bnd_some e
  obtain ⟨xs, s2, e2, e⟩ := bnd_some e
  cases e
  refine da _ _ _ _ _ _ _ st x s1 e1 _ fun F1 H1 v E1 r1 p1 => ?_
  refine db _ _ _ _ _ _ _ (st.next E1 r1) xs _ e2 _ fun F2 H2 vs E2 r2 p2 => ?_
  exact q F2 H2 _ (E1.trans E2) r2 (.cons (Rp.mo p1 E2.sF) p2)
def eLst (m : LM S) : EM S := fun ρ s => bnd (m ρ s) fun ds s1 => if ds.length ≤ sizeLine then some (.list ds, s1) else none
def eTup (m : LM S) : EM S := fun ρ s => bnd (m ρ s) fun ds s1 => if ds.length ≤ sizeLine then some (.tuple ds, s1) else none
theorem wo_lst {es : List Expr} {m : LM S} {pos : Pos} (h : WA f own es m) : WO f own (.List es pos) (eLst m) := by
  obtain ⟨ta, pa, da⟩ := h.ex
  refine ⟨_, fun i => pe_lst (pa i), ?_⟩
  intro F0 H0 F H ρ s σ st d s' e Q q
  obtain ⟨ds, s1, e1, e⟩ := bnd_some e
  split at e
  · rename_i hz
    cases e
    refine da _ _ _ _ _ _ _ st ds _ e1 _ fun F1 H1 vs E1 r1 p1 => ?_
    refine ⟨by rw [RpAll.length p1]; exact hz, fun p np => ?_⟩
    have n0 : H p = none := by
      cases z : H p with
      | none => rfl
      | some u => exact absurd np (E1.dom p (by rw [z]; exact Option.some_ne_none _))
    have E2 := Ext.newO (o := .lst vs) E1.sub np
    exact q F1 _ p vs ds (E1.trans E2.weak) (f.A.ext r1 E2) rfl (free_of E1.sub np) n0 upd_same p1
  · cases e
theorem we_lst {es : List Expr} {m : LM S} {pos : Pos} (h : WA f own es m) : WE f own (.List es pos) (eLst m) := (wo_lst h).we
theorem we_tup {es : List Expr} {m : LM S} {x1} {pos : Pos} (h : WA f own es m) : WE f own (.Tuple es x1 pos) (eTup m) := by
  obtain ⟨ta, pa, da⟩ := h.ex
  refine ⟨_, fun i => pe_tup (pa i), ?_⟩
  intro F0 H0 F H ρ s σ st d s' e Q q
  obtain ⟨ds, s1, e1, e⟩ := bnd_some e
  split at e
  · rename_i hz
    cases e
    refine da _ _ _ _ _ _ _ st ds _ e1 _ fun F1 H1 vs E1 r1 p1 => ?_
    refine ⟨by rw [RpAll.length p1]; exact hz, fun p np => ?_⟩
    have E2 := Ext.new (o := .tup vs) E1.sub np
    exact q _ _ _ (E1.trans E2.weak) (f.A.ext r1 E2) (Rp.tup (SqT.of upd_same) (RpAll.mo p1 E2.sF))
  · cases e

/-! ### a subscript -/
def dIx : D → D → Option D
  | .list xs, .int i => atI xs i
  | .tuple xs, .int i => atI xs i
  | _, _ => none
theorem atI_rp {K : Frag} {F : Hp} {vs : List V} {ds : List D} {i : Int} {d : D} (h : RpAll K F vs ds) (e : atI ds i = some d) : ∃ v, atI vs i = some v ∧ Rp K F v d := by
  unfold atI at e ⊢
  rw [RpAll.length h]
  obtain ⟨j, e1, e2⟩ := bind_some e
  obtain ⟨v, h1, h2⟩ := RpAll.get h e2
  exact ⟨v, by rw [e1]; exact h1, h2⟩
def rIxX (K : Frag) : R2 := fun x y H Q => rIxL K x y H Q ∨ rIxT K x y H Q
theorem opd_ix {K : Frag} : OpD K (rIxX K) dIx := by
  intro F H x y dx dy d sm rx ry e Q q
  unfold dIx at e
  split at e
  · cases rx with
    | lst h1 p1 =>
      cases ry
      obtain ⟨v, e1, r1⟩ := atI_rp p1 e
      exact .inl ⟨_, _, _, v, rfl, rfl, SqL.of (sm _ _ h1), e1, q F H v (Ext.refl sm) r1⟩
  · cases rx with
    | tup h1 p1 =>
      cases ry
      obtain ⟨v, e1, r1⟩ := atI_rp p1 e
      exact .inr ⟨_, _, _, v, rfl, rfl, seqT sm h1, e1, q F H v (Ext.refl sm) r1⟩
  · cases e
theorem we_ix {a b : Expr} {ma mb : EM S} {pos : Pos} (ha : WE f own a ma) (hb : WE f own b mb) (hs : PlainIx b := by intro _ _; rfl) : WE f own (.Subscript a b pos) (eOp2 dIx ma mb) := by
  obtain ⟨ta, pa, da⟩ := ha.ex
  obtain ⟨tb, pb, db⟩ := hb.ex
  exact ⟨_, fun i => pe_ix (f.hK i ▸ (ix_list.or ix_tup : IxR (f.X i) (rIxX (f.X i).K))) (pa i) (pb i) hs, de_op opd_ix da db⟩
/-- x[i], x an owned list -/
theorem we_ixO {x : Str} {b : Expr} {mb : EM S} {pos p1 : Pos} (i : Nat) (hb : WE f own b mb) (io : i ∈ own := by decide) (hN : f.N[i]? = some x := by rfl) (hv : ∀ j, Vis (f.X j).env.scope x := by intro _; first | exact Or.inl rfl | exact Or.inr (Or.inl rfl) | exact Or.inr (Or.inr rfl))
    (hd : (x == ("__debug__" : Str)) = false := by decide) (hcd : (x == ("__classdict__" : Str)) = false := by decide) (hs : PlainIx b := by intro _ _; rfl) : WE f own (.Subscript (.Name x p1) b pos) (eOp2 dIx (eVar i) mb) := by
  obtain ⟨tb, pb, db⟩ := hb.ex
  refine ⟨_, fun j => pe_ix (f.hK j ▸ (ix_list.or ix_tup : IxR (f.X j) (rIxX (f.X j).K))) (pe_var (by rw [f.hN]; exact hN) (hv j) hd hcd) (pb j) hs, ?_⟩
  intro F0 H0 F H ρ s σ st d s' e Q q
  obtain ⟨dx, s1, e1, e⟩ := bnd_some e
  obtain ⟨y, s2, e2, e⟩ := bnd_some e
  obtain ⟨z, e3, e⟩ := bind_some e
  cases e
  obtain ⟨e4, rfl⟩ := eVar_some e1
  obtain ⟨o, vs, ds, h1, rfl, n1, n2, n3, h2, r2⟩ := st.ow i io dx e4
  refine ⟨.ref o, h1, ?_⟩
  refine db _ _ _ _ _ _ _ st y _ e2 _ fun F2 H2 u E2 q2 p2 => ?_
  unfold dIx at e3
  split at e3
  · rename_i ee
    cases ee
    cases p2
    obtain ⟨v, e5, r5⟩ := atI_rp r2 e3
    exact .inl ⟨_, _, _, v, rfl, rfl, SqL.of (E2.sH _ _ n3 h2), e5, q F2 H2 v E2 q2 (Rp.mo r5 E2.sF)⟩
  · rename_i ee
    cases ee
  · cases e3
end
end G

/-! The data layer's rules, 2: calls, comprehensions, statements, defs. -/
namespace G
open PySem PySem.Spec PyProof.Rows L2

/-! ### calls of built-ins -/
def CallD (K : Frag) (r : List V → Hp → VK → Prop) (g : List D → Option D) : Prop := ∀ F H vs ds d, Same F H → RpAll K F vs ds → g ds = some d → ∀ Q : VK,
  (∀ F' H' v, Ext [] F H F' H' → Rp K F' v d → Q v H') → r vs H Q
def CallO (K : Frag) (r : List V → Hp → VK → Prop) (g : List D → Option D) : Prop := ∀ F H vs ds d, Same F H → RpAll K F vs ds → g ds = some d → ∀ Q : VK,
  (∀ H' o ws es, Ext [] F H F H' → d = .list es → H o = none → H' o = some (.lst ws) → RpAll K F ws es → Q (.ref o) H') → r vs H Q
section
variable {S : Type} {f : Fam S} {own : List Nat}
def eCall (g : List D → Option D) (m : LM S) : EM S := fun ρ s => bnd (m ρ s) fun ds s1 => (g ds).bind fun d => some (d, s1)
theorem de_call {r : List V → Hp → VK → Prop} {g : List D → Option D} {t : TA} {m : LM S} (h : CallD f.K r g) (ha : DA f own t m) : DE f own (tCB r t) (eCall g m) := by
  intro F0 H0 F H ρ s σ st d s' e Q q
  obtain ⟨ds, s1, e1, e⟩ := bnd_some e
  obtain ⟨z, e2, e⟩ := bind_some e
  cases e
  refine ha _ _ _ _ _ _ _ st ds _ e1 _ fun F1 H1 vs E1 r1 p1 => ?_
  exact h F1 H1 vs ds d E1.sub p1 e2 _ fun F3 H3 z' E3 p3 => q F3 H3 z' (E1.trans E3.weak) (f.A.ext r1 E3) p3
theorem none_back {ex : List Addr} {F H F' H' : Hp} (E : Ext ex F H F' H') {o : Addr} (n : H' o = none) : H o = none := by
  cases z : H o with
  | none => rfl
  | some u => exact absurd n (E.dom o (by rw [z]; exact Option.some_ne_none _))
theorem do_call {r : List V → Hp → VK → Prop} {g : List D → Option D} {t : TA} {m : LM S} (h : CallO f.K r g) (ha : DA f own t m) : DO f own (tCB r t) (eCall g m) := by
  intro F0 H0 F H ρ s σ st d s' e Q q
  obtain ⟨ds, s1, e1, e⟩ := bnd_some e
  obtain ⟨z, e2, e⟩ := bind_some e
  cases e
  refine ha _ _ _ _ _ _ _ st ds _ e1 _ fun F1 H1 vs E1 r1 p1 => ?_
  refine h F1 H1 vs ds d E1.sub p1 e2 _ fun H3 o ws es E3 ed n1 h1 p3 => ?_
  exact q F1 H3 o ws es (E1.trans E3.weak) (f.A.ext r1 E3) ed (free_of E1.sub n1) (none_back E1 n1) h1 p3
theorem we_callB {x : Str} {p pos : Pos} {id : String} {e : Expr} {es : List Expr} {r : Frag → List V → Hp → VK → Prop} {g : List D → Option D} {m : LM S} (hc : ∀ i, CallR (f.X i) (.builtin id) (r (f.X i).K)) (h : CallD f.K (r f.K) g) (ha : WA f own (e :: es) m)
    (hm : ∀ i, (f.X i).mg x = none) (hv : bootBuiltins x = some (.builtin id)) (hg : ∀ i, Gl (f.X i) x := by intro _; rfl) (hn : x ≠ "__name__" := by decide) (hdb : (x == ("__debug__" : Str)) = false := by decide)
    (he : ∀ i, starEach (e :: es) (f.X i).env = (false, eval e (f.X i).env) :: starEach es (f.X i).env := by intro _; rfl) (hpl : ∀ i, (backTo pos (starEach es (f.X i).env)).any (·.1) = false := by intro _; rfl) :
    WE f own (.Call (.Name x p) (e :: es) [] pos) (eCall g m) := by
  obtain ⟨t, pt, dt⟩ := ha.ex
  exact ⟨_, fun i => pe_callB (f.hK i ▸ hc i) (hg i) (hm i) hv (pt i) hn hdb (he i) (hpl i), de_call h dt⟩
theorem wo_callB {x : Str} {p pos : Pos} {id : String} {e : Expr} {es : List Expr} {r : Frag → List V → Hp → VK → Prop} {g : List D → Option D} {m : LM S} (hc : ∀ i, CallR (f.X i) (.builtin id) (r (f.X i).K)) (h : CallO f.K (r f.K) g) (ha : WA f own (e :: es) m)
    (hm : ∀ i, (f.X i).mg x = none) (hv : bootBuiltins x = some (.builtin id)) (hg : ∀ i, Gl (f.X i) x := by intro _; rfl) (hn : x ≠ "__name__" := by decide) (hdb : (x == ("__debug__" : Str)) = false := by decide)
    (he : ∀ i, starEach (e :: es) (f.X i).env = (false, eval e (f.X i).env) :: starEach es (f.X i).env := by intro _; rfl) (hpl : ∀ i, (backTo pos (starEach es (f.X i).env)).any (·.1) = false := by intro _; rfl) :
    WO f own (.Call (.Name x p) (e :: es) [] pos) (eCall g m) := by
  obtain ⟨t, pt, dt⟩ := ha.ex
  exact ⟨_, fun i => pe_callB (f.hK i ▸ hc i) (hg i) (hm i) hv (pt i) hn hdb (he i) (hpl i), do_call h dt⟩
theorem we_callTy {x : Str} {p pos : Pos} {T : String} {e : Expr} {es : List Expr} {r : Frag → List V → Hp → VK → Prop} {g : List D → Option D} {m : LM S} (hc : ∀ i, CallR (f.X i) (.type T) (r (f.X i).K)) (h : CallD f.K (r f.K) g) (ha : WA f own (e :: es) m)
    (hm : ∀ i, (f.X i).mg x = none) (hv : bootBuiltins x = some (.type T)) (hg : ∀ i, Gl (f.X i) x := by intro _; rfl) (hn : x ≠ "__name__" := by decide) (hdb : (x == ("__debug__" : Str)) = false := by decide)
    (he : ∀ i, starEach (e :: es) (f.X i).env = (false, eval e (f.X i).env) :: starEach es (f.X i).env := by intro _; rfl) (hpl : ∀ i, (backTo pos (starEach es (f.X i).env)).any (·.1) = false := by intro _; rfl) :
    WE f own (.Call (.Name x p) (e :: es) [] pos) (eCall g m) := by
  obtain ⟨t, pt, dt⟩ := ha.ex
  exact ⟨_, fun i => pe_callTy (f.hK i ▸ hc i) (hg i) (hm i) hv (pt i) hn hdb (he i) (hpl i), de_call h dt⟩
theorem wo_callTy {x : Str} {p pos : Pos} {T : String} {e : Expr} {es : List Expr} {r : Frag → List V → Hp → VK → Prop} {g : List D → Option D} {m : LM S} (hc : ∀ i, CallR (f.X i) (.type T) (r (f.X i).K)) (h : CallO f.K (r f.K) g) (ha : WA f own (e :: es) m)
    (hm : ∀ i, (f.X i).mg x = none) (hv : bootBuiltins x = some (.type T)) (hg : ∀ i, Gl (f.X i) x := by intro _; rfl) (hn : x ≠ "__name__" := by decide) (hdb : (x == ("__debug__" : Str)) = false := by decide)
    (he : ∀ i, starEach (e :: es) (f.X i).env = (false, eval e (f.X i).env) :: starEach es (f.X i).env := by intro _; rfl) (hpl : ∀ i, (backTo pos (starEach es (f.X i).env)).any (·.1) = false := by intro _; rfl) :
    WO f own (.Call (.Name x p) (e :: es) [] pos) (eCall g m) := by
  obtain ⟨t, pt, dt⟩ := ha.ex
  exact ⟨_, fun i => pe_callTy (f.hK i ▸ hc i) (hg i) (hm i) hv (pt i) hn hdb (he i) (hpl i), do_call h dt⟩
end
theorem rp1 {K : Frag} {F : Hp} {vs : List V} {d : D} (h : RpAll K F vs [d]) : ∃ v, vs = [v] ∧ Rp K F v d := by
  cases h with
  | cons a b => cases b; exact ⟨_, rfl, a⟩
theorem rp2 {K : Frag} {F : Hp} {vs : List V} {d e : D} (h : RpAll K F vs [d, e]) : ∃ v w, vs = [v, w] ∧ Rp K F v d ∧ Rp K F w e := by
  cases h with
  | cons a b =>
    obtain ⟨w, rfl, c⟩ := rp1 b
    exact ⟨_, w, rfl, a, c⟩
/-! len -/
def gLen : List D → Option D
  | [.list xs] => some (.int xs.length)
  | [.tuple xs] => some (.int xs.length)
  | [.str z] => if z.length ≤ sizeLine then some (.int z.length) else none
  | _ => none
def rLenX (K : Frag) : List V → Hp → VK → Prop := fun xs H Q => (∃ p ys, xs = [.ref p] ∧ (SqL K H p ys ∨ SqT K H p ys) ∧ Q (.int ys.length) H) ∨ (∃ z, xs = [.str z] ∧ z.length ≤ sizeLine ∧ Q (.int z.length) H)
theorem len_c (X : Cx) : CallR X (.builtin "len") (rLenX X.K) := call_len_seq.or call_len_str
theorem cd_len {K : Frag} : CallD K (rLenX K) gLen := by
  intro F H vs ds d sm rv e Q q
  have t0 := fun n => q F H (.int n) (Ext.refl sm)
  unfold gLen at e
  split at e
  · cases e
    obtain ⟨v, rfl, r⟩ := rp1 rv
    cases r with
    | lst h1 p1 => exact .inl ⟨_, _, rfl, .inl (SqL.of (sm _ _ h1)), by rw [RpAll.length p1]; exact t0 _ (.int _)⟩
  · cases e
    obtain ⟨v, rfl, r⟩ := rp1 rv
    cases r with
    | tup h1 p1 => exact .inl ⟨_, _, rfl, .inr (seqT sm h1), by rw [RpAll.length p1]; exact t0 _ (.int _)⟩
  · split at e
    · rename_i hz
      cases e
      obtain ⟨v, rfl, r⟩ := rp1 rv
      cases r
      exact .inr ⟨_, rfl, hz, t0 _ (.int _)⟩
    · cases e
  · cases e
/-! abs, min, max of two, int, gcd -/
def gAbs : List D → Option D
  | [.int i] => some (.int (if i < 0 then -i else i))
  | _ => none
theorem cd_abs {K : Frag} : CallD K (fun xs H Q => ∃ i, xs = [.int i] ∧ Q (.int (if i < 0 then -i else i)) H) gAbs := by
  intro F H vs ds d sm rv e Q q
  unfold gAbs at e
  split at e
  · cases e
    obtain ⟨v, rfl, r⟩ := rp1 rv
    cases r
    exact ⟨_, rfl, q F H _ (Ext.refl sm) (.int _)⟩
  · cases e
def gMax2 : List D → Option D
  | [.int i, .int j] => some (.int (if j > i then j else i))
  | _ => none
def gMin2 : List D → Option D
  | [.int i, .int j] => some (.int (if j < i then j else i))
  | _ => none
theorem cd_max2 {K : Frag} : CallD K (fun xs H Q => ∃ i j, xs = [.int i, .int j] ∧ Q (.int (if j > i then j else i)) H) gMax2 := by
  intro F H vs ds d sm rv e Q q
  unfold gMax2 at e
  split at e
  · cases e
    obtain ⟨v, w, rfl, r, r'⟩ := rp2 rv
    cases r
    cases r'
    exact ⟨_, _, rfl, q F H _ (Ext.refl sm) (.int _)⟩
  · cases e
theorem cd_min2 {K : Frag} : CallD K (fun xs H Q => ∃ i j, xs = [.int i, .int j] ∧ Q (.int (if j < i then j else i)) H) gMin2 := by
  intro F H vs ds d sm rv e Q q
  unfold gMin2 at e
  split at e
  · cases e
    obtain ⟨v, w, rfl, r, r'⟩ := rp2 rv
    cases r
    cases r'
    exact ⟨_, _, rfl, q F H _ (Ext.refl sm) (.int _)⟩
  · cases e
def gGcd : List D → Option D
  | [.int i, .int j] => some (.int ((Nat.gcd i.natAbs j.natAbs : Nat) : Int))
  | _ => none
theorem cd_gcd {K : Frag} : CallD K rGcd gGcd := by
  intro F H vs ds d sm rv e Q q
  unfold gGcd at e
  split at e
  · cases e
    obtain ⟨v, w, rfl, r, r'⟩ := rp2 rv
    cases r
    cases r'
    exact ⟨_, _, rfl, q F H _ (Ext.refl sm) (.int _)⟩
  · cases e
def gInt : List D → Option D
  | [.int i] => some (.int i)
  | [.bool b] => some (.int (if b then 1 else 0))
  | _ => none
theorem cd_int {K : Frag} : CallD K (fun xs H Q => (∃ i, xs = [.int i] ∧ Q (.int i) H) ∨ ∃ k, xs = [.bl k] ∧ Q (.int (if k then 1 else 0)) H) gInt := by
  intro F H vs ds d sm rv e Q q
  unfold gInt at e
  split at e
  · cases e
    obtain ⟨v, rfl, r⟩ := rp1 rv
    cases r
    exact .inl ⟨_, rfl, q F H _ (Ext.refl sm) (.int _)⟩
  · cases e
    obtain ⟨v, rfl, r⟩ := rp1 rv
    cases r
    exact .inr ⟨_, rfl, q F H _ (Ext.refl sm) (.int _)⟩
  · cases e
/-! sum, max, min, sorted of a list of ints; any, all of a list of bools -/
def ints? : List D → Option (List Int)
  | [] => some []
  | .int i :: ds => (ints? ds).map (i :: ·)
  | _ => none
theorem ints?_eq : ∀ {ds : List D} {ns : List Int}, ints? ds = some ns → ds = ns.map PyData.int
  | [], ns, h => by cases h; rfl
  | d :: ds, ns, h => by
    unfold ints? at h
    split at h
    · rename_i e; cases e
    · rename_i i ds' e
      cases e
      cases h2 : ints? ds with
      | none => rw [h2] at h; cases h
      | some ms =>
        rw [h2] at h
        cases h
        rw [ints?_eq h2]
        rfl
    · cases h
theorem ints?_map : ∀ (ns : List Int), ints? (ns.map PyData.int) = some ns
  | [] => rfl
  | n :: ns => by
    show (ints? (ns.map PyData.int)).map (n :: ·) = some (n :: ns)
    rw [ints?_map ns]
    rfl
def bools? : List D → Option (List Bool)
  | [] => some []
  | .bool i :: ds => (bools? ds).map (i :: ·)
  | _ => none
theorem bools?_eq : ∀ {ds : List D} {ns : List Bool}, bools? ds = some ns → ds = ns.map PyData.bool
  | [], ns, h => by cases h; rfl
  | d :: ds, ns, h => by
    unfold bools? at h
    split at h
    · rename_i e; cases e
    · rename_i i ds' e
      cases e
      cases h2 : bools? ds with
      | none => rw [h2] at h; cases h
      | some ms =>
        rw [h2] at h
        cases h
        rw [bools?_eq h2]
        rfl
    · cases h
theorem bools?_map : ∀ (ns : List Bool), bools? (ns.map PyData.bool) = some ns
  | [] => rfl
  | n :: ns => by
    show (bools? (ns.map PyData.bool)).map (n :: ·) = some (n :: ns)
    rw [bools?_map ns]
    rfl
def gSum : List D → Option D
  | [.list ds] => (ints? ds).bind fun ns => some (.int ns.sum)
  | [.tuple ds] => (ints? ds).bind fun ns => some (.int ns.sum)
  | _ => none
theorem cd_sum {K : Frag} : CallD K (rSumA K) gSum := by
  intro F H vs ds d sm rv e Q q
  unfold gSum at e
  split at e
  · obtain ⟨ns, e1, e⟩ := bind_some e
    cases e
    have := ints?_eq e1
    subst this
    obtain ⟨v, rfl, r⟩ := rp1 rv
    cases r with
    | lst h1 p1 =>
      have := RpAll.of_ints p1
      subst this
      exact ⟨_, ns, rfl, .inl (SqL.of (sm _ _ h1)), q F H _ (Ext.refl sm) (.int _)⟩
  · obtain ⟨ns, e1, e⟩ := bind_some e
    cases e
    have := ints?_eq e1
    subst this
    obtain ⟨v, rfl, r⟩ := rp1 rv
    cases r with
    | tup h1 p1 =>
      have := RpAll.of_ints p1
      subst this
      exact ⟨_, ns, rfl, .inr (seqT sm h1), q F H _ (Ext.refl sm) (.int _)⟩
  · cases e
def maxI : List Int → Int
  | [] => 0
  | [x] => x
  | x :: y :: r => let m := maxI (y :: r); if x < m then m else x
def minI : List Int → Int
  | [] => 0
  | [x] => x
  | x :: y :: r => let m := minI (y :: r); if m < x then m else x
theorem maxI_le : ∀ (ns : List Int), ∀ y ∈ ns, y ≤ maxI ns
  | [], y, h => by cases h
  | [x], y, h => by
    have : y = x := by simpa using h
    subst this
    exact Int.le_refl _
  | x :: z :: r, y, h => by
    have ih := maxI_le (z :: r)
    unfold maxI
    dsimp only
    rcases List.mem_cons.mp h with e | e
    · subst e; split <;> omega
    · have := ih y e; split <;> omega
theorem maxI_mem : ∀ (ns : List Int), ns ≠ [] → maxI ns ∈ ns
  | [], h => absurd rfl h
  | [x], _ => List.mem_singleton.mpr rfl
  | x :: z :: r, _ => by
    have ih := maxI_mem (z :: r) (List.cons_ne_nil _ _)
    unfold maxI
    dsimp only
    split
    · exact List.mem_cons_of_mem _ ih
    · exact List.mem_cons_self
theorem minI_le : ∀ (ns : List Int), ∀ y ∈ ns, minI ns ≤ y
  | [], y, h => by cases h
  | [x], y, h => by
    have : y = x := by simpa using h
    subst this
    exact Int.le_refl _
  | x :: z :: r, y, h => by
    have ih := minI_le (z :: r)
    unfold minI
    dsimp only
    rcases List.mem_cons.mp h with e | e
    · subst e; split <;> omega
    · have := ih y e; split <;> omega
theorem minI_mem : ∀ (ns : List Int), ns ≠ [] → minI ns ∈ ns
  | [], h => absurd rfl h
  | [x], _ => List.mem_singleton.mpr rfl
  | x :: z :: r, _ => by
    have ih := minI_mem (z :: r) (List.cons_ne_nil _ _)
    unfold minI
    dsimp only
    split
    · exact List.mem_cons_of_mem _ ih
    · exact List.mem_cons_self
/-- a list or tuple of ints -/
def seqInts : D → Option (List Int)
  | .list ds => ints? ds
  | _ => none
def gMax : List D → Option D
  | [.list ds] => (ints? ds).bind fun ns => if ns ≠ [] then some (.int (maxI ns)) else none
  | [.tuple ds] => (ints? ds).bind fun ns => if ns ≠ [] then some (.int (maxI ns)) else none
  | _ => none
def gMin : List D → Option D
  | [.list ds] => (ints? ds).bind fun ns => if ns ≠ [] then some (.int (minI ns)) else none
  | [.tuple ds] => (ints? ds).bind fun ns => if ns ≠ [] then some (.int (minI ns)) else none
  | _ => none
theorem cd_max {K : Frag} : CallD K (rMaxA K) gMax := by
  intro F H vs ds d sm rv e Q q
  unfold gMax at e
  split at e
  · obtain ⟨ns, e1, e⟩ := bind_some e
    split at e
    · rename_i hne
      cases e
      have := ints?_eq e1
      subst this
      obtain ⟨v, rfl, r⟩ := rp1 rv
      cases r with
      | lst h1 p1 =>
        have := RpAll.of_ints p1
        subst this
        refine ⟨_, ns, rfl, .inl (SqL.of (sm _ _ h1)), List.length_pos_iff.mpr hne, fun m hm hle => ?_⟩
        have h2 := maxI_le ns m hm
        have h3 := hle _ (maxI_mem ns hne)
        have : m = maxI ns := by omega
        subst this
        exact q F H _ (Ext.refl sm) (.int _)
    · cases e
  · obtain ⟨ns, e1, e⟩ := bind_some e
    split at e
    · rename_i hne
      cases e
      have := ints?_eq e1
      subst this
      obtain ⟨v, rfl, r⟩ := rp1 rv
      cases r with
      | tup h1 p1 =>
        have := RpAll.of_ints p1
        subst this
        refine ⟨_, ns, rfl, .inr (seqT sm h1), List.length_pos_iff.mpr hne, fun m hm hle => ?_⟩
        have h2 := maxI_le ns m hm
        have h3 := hle _ (maxI_mem ns hne)
        have : m = maxI ns := by omega
        subst this
        exact q F H _ (Ext.refl sm) (.int _)
    · cases e
  · cases e
theorem cd_min {K : Frag} : CallD K (rMinA K) gMin := by
  intro F H vs ds d sm rv e Q q
  unfold gMin at e
  split at e
  · obtain ⟨ns, e1, e⟩ := bind_some e
    split at e
    · rename_i hne
      cases e
      have := ints?_eq e1
      subst this
      obtain ⟨v, rfl, r⟩ := rp1 rv
      cases r with
      | lst h1 p1 =>
        have := RpAll.of_ints p1
        subst this
        refine ⟨_, ns, rfl, .inl (SqL.of (sm _ _ h1)), List.length_pos_iff.mpr hne, fun m hm hle => ?_⟩
        have h2 := minI_le ns m hm
        have h3 := hle _ (minI_mem ns hne)
        have : m = minI ns := by omega
        subst this
        exact q F H _ (Ext.refl sm) (.int _)
    · cases e
  · obtain ⟨ns, e1, e⟩ := bind_some e
    split at e
    · rename_i hne
      cases e
      have := ints?_eq e1
      subst this
      obtain ⟨v, rfl, r⟩ := rp1 rv
      cases r with
      | tup h1 p1 =>
        have := RpAll.of_ints p1
        subst this
        refine ⟨_, ns, rfl, .inr (seqT sm h1), List.length_pos_iff.mpr hne, fun m hm hle => ?_⟩
        have h2 := minI_le ns m hm
        have h3 := hle _ (minI_mem ns hne)
        have : m = minI ns := by omega
        subst this
        exact q F H _ (Ext.refl sm) (.int _)
    · cases e
  · cases e
def gAny : List D → Option D
  | [.list ds] => (bools? ds).bind fun ns => some (.bool (ns.any id))
  | _ => none
def gAll : List D → Option D
  | [.list ds] => (bools? ds).bind fun ns => some (.bool (ns.all id))
  | _ => none
theorem cd_any {K : Frag} : CallD K (rAny K) gAny := by
  intro F H vs ds d sm rv e Q q
  unfold gAny at e
  split at e
  · obtain ⟨ns, e1, e⟩ := bind_some e
    cases e
    have := bools?_eq e1
    subst this
    obtain ⟨v, rfl, r⟩ := rp1 rv
    cases r with
    | lst h1 p1 =>
      have := RpAll.of_bools p1
      subst this
      exact ⟨_, ns, rfl, SqL.of (sm _ _ h1), q F H _ (Ext.refl sm) (.bl _)⟩
  · cases e
theorem cd_all {K : Frag} : CallD K (rAll K) gAll := by
  intro F H vs ds d sm rv e Q q
  unfold gAll at e
  split at e
  · obtain ⟨ns, e1, e⟩ := bind_some e
    cases e
    have := bools?_eq e1
    subst this
    obtain ⟨v, rfl, r⟩ := rp1 rv
    cases r with
    | lst h1 p1 =>
      have := RpAll.of_bools p1
      subst this
      exact ⟨_, ns, rfl, SqL.of (sm _ _ h1), q F H _ (Ext.refl sm) (.bl _)⟩
  · cases e
/-- ascending order -/
def insI (x : Int) : List Int → List Int
  | [] => [x]
  | y :: r => if x ≤ y then x :: y :: r else y :: insI x r
def sortI : List Int → List Int
  | [] => []
  | x :: r => insI x (sortI r)
theorem insI_perm (x : Int) : ∀ (l : List Int), (insI x l).Perm (x :: l)
  | [] => .refl _
  | y :: r => by
    unfold insI
    split
    · exact .refl _
    · exact ((insI_perm x r).cons y).trans (.swap x y r)
theorem sortI_perm : ∀ (l : List Int), (sortI l).Perm l
  | [] => .refl _
  | x :: r => (insI_perm x (sortI r)).trans ((sortI_perm r).cons x)
theorem insI_sorted (x : Int) : ∀ (l : List Int), l.Pairwise (· ≤ ·) → (insI x l).Pairwise (· ≤ ·)
  | [], _ => List.pairwise_singleton _ _
  | y :: r, h => by
    obtain ⟨h1, h2⟩ := List.pairwise_cons.mp h
    unfold insI
    split
    · rename_i hxy
      exact List.pairwise_cons.mpr ⟨fun z hz => by
        rcases List.mem_cons.mp hz with e | e
        · rw [e]; exact hxy
        · exact Int.le_trans hxy (h1 z e), h⟩
    · rename_i hxy
      refine List.pairwise_cons.mpr ⟨fun z hz => ?_, insI_sorted x r h2⟩
      rcases List.mem_cons.mp ((insI_perm x r).mem_iff.mp hz) with e | e
      · rw [e]; omega
      · exact h1 z e
theorem sortI_sorted : ∀ (l : List Int), (sortI l).Pairwise (· ≤ ·)
  | [] => .nil
  | x :: r => insI_sorted x _ (sortI_sorted r)
theorem sorted_unique : ∀ {l m : List Int}, l.Perm m → l.Pairwise (· ≤ ·) → m.Pairwise (· ≤ ·) → l = m
  | [], m, p, _, _ => (List.Perm.nil_eq p)
  | x :: l, m, p, hl, hm => by
    cases m with
    | nil => exact absurd p.length_eq (by simp)
    | cons y m =>
      obtain ⟨a1, a2⟩ := List.pairwise_cons.mp hl
      obtain ⟨b1, b2⟩ := List.pairwise_cons.mp hm
      have e : x = y := by
        have hx := p.mem_iff.mp (List.mem_cons_self (a := x) (l := l))
        have hy := p.mem_iff.mpr (List.mem_cons_self (a := y) (l := m))
        rcases List.mem_cons.mp hx with e | e
        · exact e
        · rcases List.mem_cons.mp hy with e' | e'
          · exact e'.symm
          · have := a1 y e'
            have := b1 x e
            omega
      subst e
      rw [sorted_unique ((List.perm_cons x).mp p) a2 b2]
def gSorted : List D → Option D
  | [.list ds] => (ints? ds).bind fun ns => some (.list ((sortI ns).map .int))
  | _ => none
theorem co_sorted {K : Frag} : CallO K (rSortedI K) gSorted := by
  intro F H vs ds d sm rv e Q q
  unfold gSorted at e
  split at e
  · obtain ⟨ns, e1, e⟩ := bind_some e
    cases e
    have := ints?_eq e1
    subst this
    obtain ⟨v, rfl, r⟩ := rp1 rv
    cases r with
    | lst h1 p1 =>
      have := RpAll.of_ints p1
      subst this
      refine ⟨_, ns, rfl, SqL.of (sm _ _ h1), fun ns' p hp hs np => ?_⟩
      have : ns' = sortI ns := sorted_unique (hp.trans (sortI_perm ns).symm) hs (sortI_sorted ns)
      subst this
      exact q _ p _ _ (Ext.newO sm np) rfl np upd_same (RpAll.ints _)
  · cases e
/-! list(x), tuple(x) -/
def gList : List D → Option D
  | [.list ds] => some (.list ds)
  | [.tuple ds] => some (.list ds)
  | _ => none
theorem co_list {K : Frag} : CallO K (fun xs H Q => ∃ p ys, xs = [.ref p] ∧ (SqL K H p ys ∨ SqT K H p ys) ∧ ∀ l, H l = none → Q (.ref l) (upd H l (.lst ys))) gList := by
  intro F H vs ds d sm rv e Q q
  unfold gList at e
  split at e
  · cases e
    obtain ⟨v, rfl, r⟩ := rp1 rv
    cases r with
    | lst h1 p1 => exact ⟨_, _, rfl, .inl (SqL.of (sm _ _ h1)), fun l nl => q _ l _ _ (Ext.newO sm nl) rfl nl upd_same p1⟩
  · cases e
    obtain ⟨v, rfl, r⟩ := rp1 rv
    cases r with
    | tup h1 p1 => exact ⟨_, _, rfl, .inr (seqT sm h1), fun l nl => q _ l _ _ (Ext.newO sm nl) rfl nl upd_same p1⟩
  · cases e
def gTuple : List D → Option D
  | [.list ds] => some (.tuple ds)
  | [.tuple ds] => some (.tuple ds)
  | _ => none
theorem cd_tuple {K : Frag} : CallD K (fun xs H Q => ∃ p ys, xs = [.ref p] ∧ ((SqL K H p ys ∧ ∀ l, H l = none → Q (.ref l) (upd H l (.tup ys))) ∨ (SqT K H p ys ∧ Q (.ref p) H))) gTuple := by
  intro F H vs ds d sm rv e Q q
  unfold gTuple at e
  split at e
  · cases e
    obtain ⟨v, rfl, r⟩ := rp1 rv
    cases r with
    | lst h1 p1 =>
      refine ⟨_, _, rfl, .inl ⟨SqL.of (sm _ _ h1), fun l nl => ?_⟩⟩
      exact q _ _ _ (Ext.new sm nl) (Rp.tup (SqT.of upd_same) (RpAll.mo p1 (Ext.new sm nl).sF))
  · cases e
    obtain ⟨v, rfl, r⟩ := rp1 rv
    cases r with
    | tup h1 p1 => exact ⟨_, _, rfl, .inr ⟨seqT sm h1, q F H _ (Ext.refl sm) (Rp.tup h1 p1)⟩⟩
  · cases e
/-! isinstance(x, T), T a built-in class -/
def tyName : D → String
  | .none => "NoneType"
  | .bool _ => "bool"
  | .int _ => "int"
  | .str _ => "str"
  | .list _ => "list"
  | .tuple _ => "tuple"
  | .dict _ => "dict"
def gIsi (T : String) (d : D) : Option D := (kitB (tyName d) T).bind fun b => some (.bool b)
theorem tyX_rp {K : Frag} {F H : Hp} {v : V} {d : D} (sm : Same F H) (h : Rp K F v d) : TyX K H v (.type (tyName d)) := by
  cases h with
  | non => exact .base .non
  | bl b => exact .base (.bl b)
  | int i => exact .base (.int i)
  | str x => exact .base (.str x)
  | lst h1 _ => exact .base (.lst (sm _ _ h1))
  | tup h1 _ =>
    rcases h1 with (h1 | ⟨o, h1⟩) | ⟨o, its, n, h1, h2, _⟩
    · exact .base (.tup (sm _ _ h1))
    · exact .fTuple (sm _ _ h1)
    · exact .kTuple h1 h2
section
variable {S : Type} {f : Fam S} {own : List Nat}
theorem we_isi {x : Str} {p pos p2 : Pos} {y : Str} {T : String} {e : Expr} {m : EM S} (ha : WE f own e m) (hm : ∀ i, (f.X i).mg x = none) (hm2 : ∀ i, (f.X i).mg y = none) (hv : bootBuiltins x = some (.builtin "isinstance")) (hv2 : bootBuiltins y = some (.type T))
    (hg : ∀ i, Gl (f.X i) x := by intro _; rfl) (hg2 : ∀ i, Gl (f.X i) y := by intro _; rfl) (hn : x ≠ "__name__" := by decide) (hdb : (x == ("__debug__" : Str)) = false := by decide) (hn2 : y ≠ "__name__" := by decide) (hdb2 : (y == ("__debug__" : Str)) = false := by decide)
    (he2 : ∀ i, starEach [.Name y p2] (f.X i).env = (false, eval (.Name y p2) (f.X i).env) :: starEach [] (f.X i).env := by intro _; rfl)
    (he : ∀ i, starEach [e, .Name y p2] (f.X i).env = (false, eval e (f.X i).env) :: starEach [.Name y p2] (f.X i).env := by intro _; rfl) (hpl : ∀ i, (backTo pos (starEach [.Name y p2] (f.X i).env)).any (·.1) = false := by intro _; rfl) :
    WE f own (.Call (.Name x p) [e, .Name y p2] [] pos) (eOp1 (gIsi T) m) := by
  obtain ⟨t, pt, dt⟩ := ha.ex
  refine ⟨_, fun i => pe_callB (f.hK i ▸ call_isi) (hg i) (hm i) hv (pa_cons (pt i) (pa_cons (pe_bltn (v := .ty T) (hg2 i) (hm2 i) hv2 rfl hn2 hdb2) pa_nil (he2 i)) (he i)) hn hdb (he i) (hpl i), ?_⟩
  intro F0 H0 F H ρ s σ st d s' e Q q
  obtain ⟨x, s1, e1, e⟩ := bnd_some e
  obtain ⟨z, e3, e⟩ := bind_some e
  cases e
  refine dt _ _ _ _ _ _ _ st x _ e1 _ fun F1 H1 v E1 r1 p1 => ?_
  obtain ⟨b, e4, e5⟩ := bind_some e3
  cases e5
  exact ⟨v, .ty T, _, _, b, rfl, .ty T, tyX_rp E1.sub p1, kit_ty e4, q F1 H1 _ E1 r1 (.bl b)⟩

/-! ### slices without a step -/
abbrev OM (S : Type) := Slots → S → Option (Option Int × S)
structure WP (f : Fam S) (own : List Nat) (e : Option Expr) (m : OM S) : Prop where
  ex : ∃ t, (∀ i, PO (f.X i) e t) ∧ ∀ F0 H0 F H ρ s σ, Stt f.K f.A f.sv own F0 H0 F H ρ s σ → ∀ d s', m ρ s = some (d, s') → ∀ Q : Option Int → Hp → Prop,
    (∀ F' H', Ext f.A.ex F H F' H' → f.A.rel s' H' → Q d H') → t σ H Q
def oNo : OM S := fun _ s => some (none, s)
def oSo (m : EM S) : OM S := fun ρ s => bnd (m ρ s) fun d s1 => match d with
  | .int i => some (some i, s1)
  | _ => none
theorem wp_no : WP f own none oNo := ⟨tNoPart, fun _ => po_none, fun F0 H0 F H ρ s σ st d s' e Q q => by cases e; exact q F H (Ext.refl st.sub) st.rel⟩
theorem wp_so {e : Expr} {m : EM S} (h : WE f own e m) : WP f own (some e) (oSo m) := by
  obtain ⟨t, pt, dt⟩ := h.ex
  refine ⟨_, fun i => po_some (pt i), fun F0 H0 F H ρ s σ st d s' e Q q => ?_⟩
  obtain ⟨x, s1, e1, e⟩ := bnd_some e
  split at e
  · cases e
    refine dt _ _ _ _ _ _ _ st _ _ e1 _ fun F1 H1 v E1 r1 p1 => ?_
    cases p1
    exact ⟨_, rfl, q F1 H1 E1 r1⟩
  · cases e
def cutD (xs : List D) (lo hi : Option Int) : List D := (xs.drop (HT.sIx xs.length 0 lo)).take (HT.sIx xs.length xs.length hi - HT.sIx xs.length 0 lo)
theorem cut_rp {K : Frag} {F : Hp} {vs : List V} {ds : List D} (h : RpAll K F vs ds) (lo hi : Option Int) : RpAll K F (cutV vs lo hi) (cutD ds lo hi) := by
  unfold cutV cutD
  rw [RpAll.length h]
  exact RpAll.take _ (RpAll.drop _ h)
def dSl : D → Option Int → Option Int → Option D
  | .list xs, lo, hi => some (.list (cutD xs lo hi))
  | .tuple xs, lo, hi => some (.tuple (cutD xs lo hi))
  | _, _, _ => none
def rSlX (K : Frag) : V → Option Int → Option Int → Hp → VK → Prop := fun x lo hi H Q => rSlL K x lo hi H Q ∨ rSlA K x lo hi H Q
theorem SlR.or {X : Cx} {r r' : V → Option Int → Option Int → Hp → VK → Prop} (h : SlR X r) (h' : SlR X r') : SlR X (fun x lo hi H Q => r x lo hi H Q ∨ r' x lo hi H Q) := by
  intro pins s σ H x v vl vu lo hi sl Q I rx hs pl pu q
  rcases q with q | q
  · exact h pins s σ H x v vl vu lo hi sl Q I rx hs pl pu q
  · exact h' pins s σ H x v vl vu lo hi sl Q I rx hs pl pu q
def eSl (a : EM S) (lo hi : OM S) : EM S := fun ρ s => bnd (a ρ s) fun x s1 => bnd (lo ρ s1) fun l s2 => bnd (hi ρ s2) fun u s3 => (dSl x l u).bind fun z => some (z, s3)
theorem we_slice {a : Expr} {lo hi : Option Expr} {ma : EM S} {ml mh : OM S} {pos p2 : Pos} (ha : WE f own a ma) (hl : WP f own lo ml) (hh : WP f own hi mh) : WE f own (.Subscript a (.Slice lo hi none p2) pos) (eSl ma ml mh) := by
  obtain ⟨ta, pa, da⟩ := ha.ex
  obtain ⟨tl, pl, dl⟩ := hl.ex
  obtain ⟨th, ph, dh⟩ := hh.ex
  refine ⟨_, fun i => pe_slice (f.hK i ▸ (SlR.or sl_list sl_tupA : SlR (f.X i) (rSlX (f.X i).K))) (pa i) (pl i) (ph i), ?_⟩
  intro F0 H0 F H ρ s σ st d s' e Q q
  obtain ⟨x, s1, e1, e⟩ := bnd_some e
  obtain ⟨l, s2, e2, e⟩ := bnd_some e
  obtain ⟨u, s3, e3, e⟩ := bnd_some e
  obtain ⟨z, e4, e⟩ := bind_some e
  cases e
  refine da _ _ _ _ _ _ _ st x _ e1 _ fun F1 H1 v E1 r1 p1 => ?_
  refine dl _ _ _ _ _ _ _ (st.next E1 r1) l _ e2 _ fun F2 H2 E2 r2 => ?_
  refine dh _ _ _ _ _ _ _ ((st.next E1 r1).next E2 r2) u _ e3 _ fun F3 H3 E3 r3 => ?_
  have E := (E1.trans E2).trans E3
  have p3 := Rp.mo p1 (E2.sF.trans E3.sF)
  unfold dSl at e4
  split at e4
  · cases e4
    cases p3 with
    | @lst a vs _ h1 p1 =>
      refine .inl ⟨_, _, rfl, SqL.of (E3.sub _ _ h1), fun p np => ?_⟩
      have En := Ext.new (o := .lst (cutV vs l u)) E3.sub np
      exact q _ _ _ (E.trans En.weak) (f.A.ext r3 En) (Rp.lst upd_same (RpAll.mo (cut_rp p1 _ _) En.sF))
  · cases e4
    cases p3 with
    | @tup a vs _ h1 p1 =>
      have ll := RpAll.length p1
      refine .inr ⟨_, _, rfl, seqT E3.sub h1, fun z => ?_, fun _ p np => ?_⟩
      · have : ∀ ds : List D, vs.length = ds.length → cutD ds l u = ds := fun ds ll => by
          unfold cutD
          rw [← ll, z.1, z.2, List.drop_zero, Nat.sub_zero, ll, List.take_length]
        rw [this _ ll] at q
        exact q _ _ _ E r3 (Rp.tup h1 p1)
      · have En := Ext.new (o := .tup (cutV vs l u)) E3.sub np
        exact q _ _ _ (E.trans En.weak) (f.A.ext r3 En) (Rp.tup (SqT.of upd_same) (RpAll.mo (cut_rp p1 _ _) En.sF))
  · cases e4
/-- x[::-1], x a list -/
def dRev : D → Option D
  | .list xs => some (.list xs.reverse)
  | _ => none
theorem wo_rev {e : Expr} {m : EM S} {k : Nat} {p1 p2 p3 pos : Pos} (h : WE f own e m) : WO f own (.Subscript e (.Slice none none (some (.UnaryOp .USub (.Constant (.int 1) k p1) p2)) p3) pos) (eOp1 dRev m) := by
  obtain ⟨t, pt, dt⟩ := h.ex
  refine ⟨_, fun i => f.hK i ▸ pe_revL (pt i), ?_⟩
  intro F0 H0 F H ρ s σ st d s' e Q q
  obtain ⟨x, s1, e1, e⟩ := bnd_some e
  obtain ⟨z, e3, e⟩ := bind_some e
  cases e
  refine dt _ _ _ _ _ _ _ st x _ e1 _ fun F1 H1 v E1 r1 p1 => ?_
  unfold dRev at e3
  split at e3
  · cases e3
    cases p1 with
    | @lst a vs _ h1 p1 =>
      refine ⟨_, _, rfl, SqL.of (E1.sub _ _ h1), fun p np => ?_⟩
      have En := Ext.newO (o := .lst vs.reverse) E1.sub np
      exact q _ _ p _ _ (E1.trans En.weak) (f.A.ext r1 En) rfl (free_of E1.sub np) (none_back E1 np) upd_same (RpAll.reverse p1)
  · cases e3

/-! ### targets -/
abbrev GM := D → Slots → Option Slots
def Ag (ix : List Nat) (σ σ' : L2.St) : Prop := σ'.length = σ.length ∧ ∀ j : Nat, j ∉ ix → σ'[j]? = σ[j]?
theorem Stt.set {K : Frag} {A : Amb S} {sv : Option Nat} {own own' : List Nat} {F0 H0 F H : Hp} {ρ : Slots} {s : S} {σ : L2.St} {i : Nat} {v : V} {d : D} (st : Stt K A sv own F0 H0 F H ρ s σ) (r : Rp K F v d) (hs : sv ≠ some i)
    (h1 : ∀ j ∈ own', j ∈ own ∧ j ≠ i) (h2 : ∀ j ∈ own, j ≠ i → j ∈ own') : Stt K A sv own' F0 H0 F H (ρ.set i (some d)) s (σ.set i (some v)) where
  ext := st.ext
  rel := st.rel
  exF := st.exF
  len := by rw [List.length_set, List.length_set, st.len]
  root := fun j e => by
    rw [List.getElem?_set_ne (fun z => hs (by rw [e, z]))]
    exact st.root j e
  dat := fun j c hj nj => by
    by_cases z : i = j
    · subst z
      by_cases hl : i < ρ.length
      · rw [List.getElem?_set_self hl] at hj
        cases hj
        exact ⟨v, List.getElem?_set_self (by rw [st.len]; exact hl), r⟩
      · rw [List.getElem?_eq_none (by rw [List.length_set]; omega)] at hj
        cases hj
    · rw [List.getElem?_set_ne z] at hj ⊢
      exact st.dat j c hj fun w => nj (h2 j w fun q => z q.symm)
  ow := fun j hj c hc => by
    obtain ⟨a, b⟩ := h1 j hj
    rw [List.getElem?_set_ne (fun z => b z.symm)] at hc ⊢
    exact st.ow j a c hc
  dis := fun j hj l hl ne o o' c c' g1 g2 g3 g4 => by
    obtain ⟨a, b⟩ := h1 j hj
    obtain ⟨a', b'⟩ := h1 l hl
    rw [List.getElem?_set_ne (fun z => b z.symm)] at g1 g3
    rw [List.getElem?_set_ne (fun z => b' z.symm)] at g2 g4
    exact st.dis j a l a' ne o o' c c' g1 g2 g3 g4
structure WG (f : Fam S) (own : List Nat) (ix : List Nat) (e : Expr) (m : GM) : Prop where
  ex : ∃ t, (∀ i, PG (f.X i) e t) ∧ ∀ F0 H0 F H ρ s σ, Stt f.K f.A f.sv own F0 H0 F H ρ s σ → ∀ v d, Rp f.K F v d → ∀ ρ', m d ρ = some ρ' → ∀ Q : L2.St → Hp → Prop,
    (∀ σ', Stt f.K f.A f.sv own F0 H0 F H ρ' s σ' → Ag ix σ σ' → Q σ' H) → t v σ H Q
structure WGs (f : Fam S) (own : List Nat) (ix : List Nat) (n : Nat) (e : List Expr) (m : List D → Slots → Option Slots) : Prop where
  ex : ∃ t, (∀ i, PGs (f.X i) e t) ∧ e.length = n ∧ ∀ F0 H0 F H ρ s σ, Stt f.K f.A f.sv own F0 H0 F H ρ s σ → ∀ vs ds, RpAll f.K F vs ds → ∀ ρ', m ds ρ = some ρ' → ∀ Q : L2.St → Hp → Prop,
    (∀ σ', Stt f.K f.A f.sv own F0 H0 F H ρ' s σ' → Ag ix σ σ' → Q σ' H) → t vs σ H Q
def gN (i : Nat) : GM := fun d ρ => some (ρ.set i (some d))
theorem wg_name {x : Str} {pos : Pos} (i : Nat) (hi : f.N[i]? = some x := by rfl) (hx : ∀ j, Loc (f.X j).env.scope x := by intro _; first | exact Or.inl rfl | exact Or.inr rfl) (ni : ∀ j ∈ own, j ≠ i := by decide) (hs : svNe f.sv i = true := by rfl)
    (hf : ∀ j, (f.X j).fn x = true ∨ (f.X j).env.scope.names.lookup x = some .local := by intro _; first | exact .inl rfl | exact .inr rfl) : WG f own [i] (.Name x pos) (gN i) := by
  refine ⟨gName i, fun j => pg_name (by rw [f.hN]; exact f.nd) (by rw [f.hN]; exact hi) (hx j) (hf j), ?_⟩
  intro F0 H0 F H ρ s σ st v d r ρ' e Q q
  cases e
  refine q _ (st.set r (svNe_ok hs) (fun j hj => ⟨hj, ni j hj⟩) (fun j hj _ => hj)) ⟨by rw [List.length_set], fun j hj => ?_⟩
  rw [List.getElem?_set_ne (fun z => hj (by simp [z]))]
def gsN : List D → Slots → Option Slots := fun ds ρ => match ds with
  | [] => some ρ
  | _ => none
def gsC (m : GM) (r : List D → Slots → Option Slots) : List D → Slots → Option Slots := fun ds ρ => match ds with
  | [] => none
  | d :: ds => (m d ρ).bind fun ρ1 => r ds ρ1
theorem wgs_nil : WGs f own [] 0 [] gsN := by
  refine ⟨gNil, fun _ => pgs_nil, rfl, ?_⟩
  intro F0 H0 F H ρ s σ st vs ds r ρ' e Q q
  unfold gsN at e
  split at e
  · cases e
    cases r
    exact ⟨rfl, q _ st ⟨rfl, fun _ _ => rfl⟩⟩
  · cases e
theorem wgs_cons {ix ix' : List Nat} {n : Nat} {e : Expr} {es : List Expr} {m : GM} {r : List D → Slots → Option Slots} (he : WG f own ix e m) (hr : WGs f own ix' n es r)
    (hs : ∀ i, (assignEach (e :: es) (f.X i).env).map (·.2) = assign e (f.X i).env :: (assignEach es (f.X i).env).map (·.2) := by intro _; rfl) : WGs f own (ix ++ ix') (n + 1) (e :: es) (gsC m r) := by
  obtain ⟨t, pt, dt⟩ := he.ex
  obtain ⟨u, pu, hl, du⟩ := hr.ex
  refine ⟨gCons t u, fun i => pgs_cons (pt i) (pu i) (hs i), by rw [List.length_cons, hl], ?_⟩
  intro F0 H0 F H ρ s σ st vs ds rp ρ' e Q q
  unfold gsC at e
  split at e
  · cases e
  · rename_i d ds'
    obtain ⟨ρ1, e1, e⟩ := bind_some e
    cases rp with
    | cons p1 p2 =>
      refine ⟨_, _, rfl, dt _ _ _ _ _ _ _ st _ _ p1 _ e1 _ fun σ1 st1 ag1 => ?_⟩
      refine du _ _ _ _ _ _ _ st1 _ _ p2 _ e _ fun σ2 st2 ag2 => ?_
      refine q σ2 st2 ⟨ag2.1.trans ag1.1, fun j hj => ?_⟩
      rw [ag2.2 j (fun z => hj (List.mem_append_right _ z)), ag1.2 j (fun z => hj (List.mem_append_left _ z))]
def gT (n : Nat) (r : List D → Slots → Option Slots) : GM := fun d ρ => match d with
  | .tuple ds => if ds.length = n then r ds ρ else none
  | .list ds => if ds.length = n then r ds ρ else none
  | _ => none
theorem PG.or {X : Cx} {e : Expr} {t u : TG} (h : PG X e t) (h' : PG X e u) : PG X e (fun v σ H Q => t v σ H Q ∨ u v σ H Q) := by
  refine ⟨fun pins s σ H v u Q I r q => ?_⟩
  rcases q with q | q
  · exact h.run pins s σ H v u Q I r q
  · exact h'.run pins s σ H v u Q I r q
theorem wg_tup {ix : List Nat} {n : Nat} {es : List Expr} {k : Nat} {pos : Pos} {r : List D → Slots → Option Slots} (h : WGs f own ix n es r) (hn : ∀ i, (assignEach es (f.X i).env).length = n := by intro _; rfl)
    (hst : ∀ i, (assignEach es (f.X i).env).findIdx? (·.1) = none := by intro _; rfl) : WG f own ix (.Tuple es k pos) (gT n r) := by
  obtain ⟨t, pt, hl, dt⟩ := h.ex
  refine ⟨_, fun i => f.hK i ▸ PG.or (pg_tup (f.calm i) (pt i) (hn i) (hst i)) (pg_unl (f.calm i) (pt i) (hn i) (hst i)), ?_⟩
  intro F0 H0 F H ρ s σ st v d r ρ' e Q q
  unfold gT at e
  split at e
  · split at e
    · rename_i hz
      cases r with
      | tup h1 p1 =>
        exact .inl ⟨_, _, rfl, seqT st.sub h1, by rw [RpAll.length p1]; exact hz, dt _ _ _ _ _ _ _ st _ _ p1 _ e _ q⟩
    · cases e
  · split at e
    · rename_i hz
      cases r with
      | lst h1 p1 =>
        exact .inr ⟨_, _, rfl, SqL.of (st.sub _ _ h1), by rw [RpAll.length p1]; exact hz, dt _ _ _ _ _ _ _ st _ _ p1 _ e _ q⟩
    · cases e
  · cases e
end
end G

/-! The data layer's rules, 3: walks, comprehensions, statements, defs. -/
namespace G
open PySem PySem.Spec PyProof.Rows L2

/-! ### what is walked -/
def Src (K : Frag) (F : Hp) (J : It) (ds : List D) : Prop := ∀ F1 H1, Same F F1 → Same F1 H1 → ∀ i, (∀ d, ds[i]? = some d → J.go i H1 ∧ ∀ x H2, J.yld i H1 x H2 → ∃ F2, Ext [] F1 H1 F2 H2 ∧ Rp K F2 x d) ∧ (i = ds.length → J.stop i H1)
section
variable {S : Type} {f : Fam S} {own : List Nat}
structure WI (f : Fam S) (own : List Nat) (tg iter : Expr) (m : LM S) : Prop where
  ex : ∃ wi, (∀ i, PI (f.X i) tg iter wi) ∧ ∀ F0 H0 F H ρ s σ, Stt f.K f.A f.sv own F0 H0 F H ρ s σ → ∀ ds s', m ρ s = some (ds, s') → ∀ R : It → Hp → Prop,
    (∀ F' H' J, Ext f.A.ex F H F' H' → f.A.rel s' H' → Src f.K F' J ds → R J H') → wi σ H R
theorem PI.or {X : Cx} {tg e : Expr} {wi wi' : TI} (h : PI X tg e wi) (h' : PI X tg e wi') : PI X tg e (fun σ H R => wi σ H R ∨ wi' σ H R) := by
  refine ⟨fun pins s σ H R I q => ?_⟩
  rcases q with q | q
  · exact h.run pins s σ H R I q
  · exact h'.run pins s σ H R I q
theorem src_list {K : Frag} {F : Hp} {a : Addr} {vs : List V} {ds : List D} (h : F a = some (.lst vs)) (p : RpAll K F vs ds) : Src K F (Itl K a) ds := by
  intro F1 H1 s1 s2 i
  have hq : SqL K H1 a vs := SqL.of (s2 _ _ (s1 _ _ h))
  refine ⟨fun d e => ?_, fun e => ⟨vs, hq, by rw [RpAll.length p]; omega⟩⟩
  obtain ⟨v, e1, r1⟩ := RpAll.get p e
  refine ⟨⟨vs, v, hq, e1⟩, fun x H2 y => ?_⟩
  obtain ⟨rfl, y⟩ := y
  have := Option.some.inj ((y vs hq).symm.trans e1)
  subst this
  exact ⟨F1, Ext.refl s2, Rp.mo r1 s1⟩
theorem src_tup {K : Frag} {F : Hp} {a : Addr} {vs : List V} {ds : List D} (h : SqT K F a vs) (p : RpAll K F vs ds) : Src K F (Itt K a) ds := by
  intro F1 H1 s1 s2 i
  have hq : SqT K H1 a vs := seqT s2 (seqT s1 h)
  refine ⟨fun d e => ?_, fun e => ⟨vs, hq, by rw [RpAll.length p]; omega⟩⟩
  obtain ⟨v, e1, r1⟩ := RpAll.get p e
  refine ⟨⟨vs, v, hq, e1⟩, fun x H2 y => ?_⟩
  obtain ⟨rfl, y⟩ := y
  have := Option.some.inj ((y vs hq).symm.trans e1)
  subst this
  exact ⟨F1, Ext.refl s2, Rp.mo r1 s1⟩
def lSeq (m : EM S) : LM S := fun ρ s => bnd (m ρ s) fun d s1 => match d with
  | .list ds => some (ds, s1)
  | .tuple ds => some (ds, s1)
  | _ => none
theorem wi_seq {tg e : Expr} {m : EM S} (h : WE f own e m) : WI f own tg e (lSeq m) := by
  obtain ⟨t, pt, dt⟩ := h.ex
  refine ⟨_, fun i => f.hK i ▸ PI.or (pi_list (tg := tg) (pt i)) (pi_tup (pt i)), ?_⟩
  intro F0 H0 F H ρ s σ st ds s' e R q
  obtain ⟨d, s1, e1, e⟩ := bnd_some e
  split at e
  · cases e
    left
    refine dt _ _ _ _ _ _ _ st _ _ e1 _ fun F1 H1 v E1 r1 p1 => ?_
    cases p1 with
    | lst h1 p1 => exact ⟨_, rfl, ⟨_, SqL.of (E1.sub _ _ h1)⟩, q F1 H1 _ E1 r1 (src_list h1 p1)⟩
  · cases e
    right
    refine dt _ _ _ _ _ _ _ st _ _ e1 _ fun F1 H1 v E1 r1 p1 => ?_
    cases p1 with
    | tup h1 p1 => exact ⟨_, rfl, ⟨_, seqT E1.sub h1⟩, q F1 H1 _ E1 r1 (src_tup h1 p1)⟩
  · cases e
def rangeD (lo : Int) (n : Nat) : List D := (List.range n).map fun i : Nat => .int (lo + i)
theorem rangeD_get {lo : Int} {n i : Nat} {d : D} (h : (rangeD lo n)[i]? = some d) : i < n ∧ d = .int (lo + i) := by
  unfold rangeD at h
  rw [List.getElem?_map] at h
  by_cases hi : i < n
  · rw [List.getElem?_range hi] at h
    exact ⟨hi, (Option.some.inj h).symm⟩
  · rw [List.getElem?_eq_none (by simpa using hi)] at h
    cases h
theorem rangeD_length {lo : Int} {n : Nat} : (rangeD lo n).length = n := by simp [rangeD]
theorem src_range {K : Frag} {F : Hp} {lo : Int} {n : Nat} : Src K F (Itr lo n) (rangeD lo n) := by
  intro F1 H1 s1 s2 i
  refine ⟨fun d e => ?_, fun e => by rw [rangeD_length] at e; exact Nat.le_of_eq e.symm⟩
  obtain ⟨hi, rfl⟩ := rangeD_get e
  refine ⟨hi, fun x H2 y => ?_⟩
  obtain ⟨rfl, rfl⟩ := y
  exact ⟨F1, Ext.refl s2, .int _⟩
def bd62 (i : Int) : Bool := decide (-(2 ^ 62) ≤ i ∧ i < 2 ^ 62)
def lRange1 (m : LM S) : LM S := fun ρ s => bnd (m ρ s) fun ds s1 => match ds with
  | [.int j] => if bd62 j = true then some (rangeD 0 j.toNat, s1) else none
  | _ => none
def lRange2 (m : LM S) : LM S := fun ρ s => bnd (m ρ s) fun ds s1 => match ds with
  | [.int i, .int j] => if bd62 i = true ∧ bd62 j = true then some (rangeD i (j - i).toNat, s1) else none
  | _ => none
theorem wi_range1 {tg a : Expr} {m : LM S} {p pos : Pos} (h : WA f own [a] m) (hm : ∀ i, (f.X i).mg "range" = none) (hg : ∀ i, Gl (f.X i) "range" := by intro _; rfl) (hs : ∀ i, starEach [a] (f.X i).env = [(false, eval a (f.X i).env)] := by intro _; rfl) :
    WI f own tg (.Call (.Name "range" p) [a] [] pos) (lRange1 m) := by
  obtain ⟨t, pt, dt⟩ := h.ex
  refine ⟨_, fun i => pi_range1 (hg i) (hm i) (pt i) (hs i), ?_⟩
  intro F0 H0 F H ρ s σ st ds s' e R q
  obtain ⟨xs, s1, e1, e⟩ := bnd_some e
  split at e
  · split at e
    · rename_i j hb
      cases e
      refine dt _ _ _ _ _ _ _ st _ _ e1 _ fun F1 H1 vs E1 r1 p1 => ?_
      obtain ⟨v, rfl, r⟩ := rp1 p1
      cases r
      have hb := of_decide_eq_true hb
      exact ⟨j, rfl, hb.1, hb.2, q F1 H1 _ E1 r1 src_range⟩
    · cases e
  · cases e
theorem wi_range2 {tg a b : Expr} {m : LM S} {p pos : Pos} (h : WA f own [a, b] m) (hm : ∀ i, (f.X i).mg "range" = none) (hg : ∀ i, Gl (f.X i) "range" := by intro _; rfl) (hs : ∀ i, starEach [a, b] (f.X i).env = [(false, eval a (f.X i).env), (false, eval b (f.X i).env)] := by intro _; rfl)
    (hs2 : ∀ i, starEach [b] (f.X i).env = [(false, eval b (f.X i).env)] := by intro _; rfl) : WI f own tg (.Call (.Name "range" p) [a, b] [] pos) (lRange2 m) := by
  obtain ⟨t, pt, dt⟩ := h.ex
  refine ⟨_, fun i => pi_range2 (hg i) (hm i) (pt i) (hs i) (hs2 i), ?_⟩
  intro F0 H0 F H ρ s σ st ds s' e R q
  obtain ⟨xs, s1, e1, e⟩ := bnd_some e
  split at e
  · split at e
    · rename_i i j hb
      cases e
      refine dt _ _ _ _ _ _ _ st _ _ e1 _ fun F1 H1 vs E1 r1 p1 => ?_
      obtain ⟨v, w, rfl, r, r'⟩ := rp2 p1
      cases r
      cases r'
      have h1 := of_decide_eq_true hb.1
      have h2 := of_decide_eq_true hb.2
      exact ⟨i, j, rfl, ⟨h1.1, h1.2, h2.1, h2.2⟩, q F1 H1 _ E1 r1 src_range⟩
    · cases e
  · cases e

/-! ### blocks of comprehensions -/
def Fam.blk (f : Fam S) (scope : Scope) : Fam S where
  ι := f.ι × Shared × Hp × Addr × List (Str × Addr) × List Addr
  X := fun p => (f.X p.1).blk p.2.1 p.2.2.1 scope (compEnvC scope p.2.2.2.2.1 p.2.2.2.1 (f.X p.1).env) p.2.2.2.2.2
  K := f.K
  N := f.N
  k := f.k
  A := f.A
  sv := f.sv
  hK := fun p => f.hK p.1
  hN := fun p => f.hN p.1
  nd := f.nd
  room := fun p => f.room p.1
  calm := fun p => f.calm p.1
/-- a clause's tests -/
structure WTs (f : Fam S) (own : List Nat) (es : List Expr) (m : TM S) : Prop where
  ex : ∃ t, (∀ i, PTs (f.X i) es t) ∧ DT f own t m
def tYe : TM S := fun _ s => some (true, s)
theorem wts_nil : WTs f own [] tYe := ⟨_, fun _ => pts_nil, fun F0 H0 F H ρ s σ st b s' e Q q => by cases e; exact q F H (Ext.refl st.sub) st.rel⟩
theorem wts_one {c : Expr} {m : TM S} (h : WT f own c m) : WTs f own [c] m := let ⟨t, p, d⟩ := h.ex; ⟨t, fun i => pts_one (p i), d⟩
def wipeS (ρ : Slots) : List Nat → Slots
  | [] => ρ
  | v :: vs => (wipeS ρ vs).set v none
theorem wipeS_length (ρ : Slots) : ∀ vs : List Nat, (wipeS ρ vs).length = ρ.length
  | [] => rfl
  | v :: vs => by unfold wipeS; rw [List.length_set, wipeS_length ρ vs]
theorem wipeS_get {ρ : Slots} {i : Nat} : ∀ {vs : List Nat}, i ∉ vs → (wipeS ρ vs)[i]? = ρ[i]?
  | [], _ => rfl
  | v :: vs, h => by
    unfold wipeS
    simp only [List.mem_cons, not_or] at h
    rw [List.getElem?_set_ne (fun z => h.1 z.symm), wipeS_get h.2]
theorem wipeS_none {ρ : Slots} {i : Nat} {d : D} : ∀ {vs : List Nat}, (wipeS ρ vs)[i]? = some (some d) → i ∉ vs
  | [], _ => by simp
  | v :: vs, h => by
    unfold wipeS at h
    by_cases hi : v = i
    · subst hi
      by_cases hv : v < (wipeS ρ vs).length
      · rw [List.getElem?_set_self hv] at h; cases h
      · rw [List.getElem?_eq_none (by simpa using hv)] at h; cases h
    · rw [List.getElem?_set_ne hi] at h
      simp only [List.mem_cons, not_or]
      exact ⟨fun e => hi e.symm, wipeS_none h⟩
theorem wipe_get {σ : L2.St} {i : Nat} : ∀ {vs : List Nat}, i ∉ vs → (wipe σ vs)[i]? = σ[i]?
  | [], _ => rfl
  | v :: vs, h => by
    unfold wipe
    simp only [List.mem_cons, not_or] at h
    rw [List.getElem?_set_ne (fun z => h.1 z.symm), wipe_get h.2]
theorem wipe_in {σ : L2.St} {i : Nat} : ∀ {vs : List Nat}, i ∈ vs → i < σ.length → (wipe σ vs)[i]? = some none
  | [], h, _ => by simp at h
  | v :: vs, h, hl => by
    unfold wipe
    by_cases hi : v = i
    · subst hi
      rw [List.getElem?_set_self (by rw [wipe_length]; exact hl)]
    · rw [List.getElem?_set_ne hi]
      rcases List.mem_cons.mp h with e | e
      · exact absurd e.symm hi
      · exact wipe_in e hl
theorem wipe_ag {σ σ' : L2.St} {ix vs : List Nat} (h : Ag ix (wipe σ vs) σ') (hx : ∀ i ∈ ix, i ∈ vs) : wipe σ' vs = wipe σ vs := by
  have hl : σ'.length = σ.length := by rw [h.1, wipe_length]
  refine List.ext_getElem? fun i => ?_
  by_cases hi : i ∈ vs
  · by_cases hz : i < σ.length
    · rw [wipe_in hi (by rw [hl]; exact hz), wipe_in hi hz]
    · rw [List.getElem?_eq_none (by rw [wipe_length, hl]; omega), List.getElem?_eq_none (by rw [wipe_length]; omega)]
  · rw [wipe_get hi, h.2 i fun z => hi (hx i z)]
theorem Stt.wipe {K : Frag} {A : Amb S} {sv : Option Nat} {own : List Nat} {F0 H0 F H : Hp} {ρ : Slots} {s : S} {σ : L2.St} (st : Stt K A sv own F0 H0 F H ρ s σ) (vs : List Nat) (hs : ∀ j, sv = some j → j ∉ vs) : Stt K A sv own F0 H0 F H (wipeS ρ vs) s (L2.wipe σ vs) where
  ext := st.ext
  rel := st.rel
  exF := st.exF
  len := by rw [wipe_length, wipeS_length, st.len]
  root := fun j e => by rw [wipe_get (hs j e)]; exact st.root j e
  dat := fun i d h n => by
    have hn := wipeS_none h
    rw [wipeS_get hn] at h
    rw [wipe_get hn]
    exact st.dat i d h n
  ow := fun i hi d h => by
    have hn := wipeS_none h
    rw [wipeS_get hn] at h
    rw [wipe_get hn]
    exact st.ow i hi d h
  dis := fun i hi j hj ne o o' d d' g1 g2 g3 g4 => by
    have hn := wipeS_none g1
    have hm := wipeS_none g2
    rw [wipeS_get hn] at g1
    rw [wipeS_get hm] at g2
    rw [wipe_get hn] at g3
    rw [wipe_get hm] at g4
    exact st.dis i hi j hj ne o o' d d' g1 g2 g3 g4
/-- an object that no slot knows is written -/
theorem Stt.poke {K : Frag} {A : Amb S} {sv : Option Nat} {own : List Nat} {F0 H0 F H : Hp} {ρ : Slots} {s : S} {σ : L2.St} {p : Addr} {o : HO} (st : Stt K A sv own F0 H0 F H ρ s σ) (hF : F p = none) (h0 : H0 p = none) (hx : p ∉ A.ex)
    (hn : ∀ j ∈ own, ∀ d, ρ[j]? = some (some d) → σ[j]? ≠ some (some (.ref p))) : Stt K A sv own F0 H0 F (upd H p o) ρ s σ where
  ext := ⟨st.ext.sF, fun b u n e => by rw [upd_ne (ne_of_none e h0)]; exact st.ext.sH b u n e, fun b n => by
      by_cases z : b = p
      · rw [z, upd_same]; exact Option.some_ne_none _
      · rw [upd_ne z]; exact st.ext.dom b n,
    fun b u e => by rw [upd_ne (ne_of_none e hF)]; exact st.sub _ _ e, st.ext.fr⟩
  rel := A.keep s H _ st.rel fun b hb u e => by rw [upd_ne (fun z => hx (by rw [← z]; exact hb))]; exact e
  exF := st.exF
  len := st.len
  root := st.root
  dat := st.dat
  ow := fun i hi d h => by
    obtain ⟨q, vs, ds, e1, e2, n1, n2, n3, h1, r1⟩ := st.ow i hi d h
    refine ⟨q, vs, ds, e1, e2, n1, n2, n3, ?_, r1⟩
    rw [upd_ne (fun z => hn i hi d h (by rw [e1, z]))]
    exact h1
  dis := st.dis

/-! ### list comprehensions -/
def lcGo (tg : GM) (tt : TM S) (te : EM S) (ρ : Slots) : List D → S → Option (List D × S)
  | [], s => some ([], s)
  | d :: ds, s => (tg d ρ).bind fun ρ1 => bnd (tt ρ1 s) fun b s1 => if b = true then bnd (te ρ1 s1) fun y s2 => bnd (lcGo tg tt te ρ ds s2) fun ys s3 => some (y :: ys, s3) else lcGo tg tt te ρ ds s1
def eLc (src : LM S) (vs : List Nat) (tg : GM) (tt : TM S) (te : EM S) : EM S := fun ρ s => bnd (src ρ s) fun ds s1 => bnd (lcGo tg tt te (wipeS ρ vs) ds s1) fun ys s2 => if ys.length ≤ sizeLine then some (.list ys, s2) else none
theorem do_lc {wi : TI} {g : TG} {tt : TT} {te : TE} {vs ix : List Nat} {ms : LM S} {mg : GM} {mt : TM S} {me : EM S}
    (hw : ∀ F0 H0 F H ρ s σ, Stt f.K f.A f.sv own F0 H0 F H ρ s σ → ∀ ds s', ms ρ s = some (ds, s') → ∀ R : It → Hp → Prop, (∀ F' H' J, Ext f.A.ex F H F' H' → f.A.rel s' H' → Src f.K F' J ds → R J H') → wi σ H R)
    (hg : ∀ F0 H0 F H ρ s σ, Stt f.K f.A f.sv own F0 H0 F H ρ s σ → ∀ v d, Rp f.K F v d → ∀ ρ', mg d ρ = some ρ' → ∀ Q : L2.St → Hp → Prop, (∀ σ', Stt f.K f.A f.sv own F0 H0 F H ρ' s σ' → Ag ix σ σ' → Q σ' H) → g v σ H Q)
    (ht : DT f own tt mt) (he : DE f own te me) (hix : ∀ i ∈ ix, i ∈ vs) (hsv : ∀ j, f.sv = some j → j ∉ vs) :
    DO f own (tLc wi g tt te vs) (eLc ms vs mg mt me) := by
  intro F0 H0 F H ρ s σ st d s' e Q q
  obtain ⟨ds, s1, e1, e⟩ := bnd_some e
  obtain ⟨ys, s2, e2, e⟩ := bnd_some e
  split at e
  · rename_i hz
    cases e
    refine hw _ _ _ _ _ _ _ st ds s1 e1 _ fun F1 H1 J E1 r1 src D nD => ?_
    have st1 := st.next E1 r1
    have nF : F1 D = none := free_of E1.sub nD
    have n0 : H0 D = none := none_back st1.ext nD
    have nx : D ∉ f.A.ex := fun hb => f.A.dom s1 H1 r1 D hb nD
    have nown : ∀ j ∈ own, ∀ d, ρ[j]? = some (some d) → σ[j]? ≠ some (some (.ref D)) := fun j hj d hd z => by
      obtain ⟨o, vs', ds', g1, _, _, _, _, g2, _⟩ := st1.ow j hj d hd
      rw [g1] at z
      cases z
      rw [nD] at g2
      cases g2
    refine ⟨fun i m H' => m = ds.length - i ∧ i ≤ ds.length ∧ ∃ F' u' rest acc accD, Stt f.K f.A f.sv own F0 H0 F' H' (wipeS ρ vs) u' (wipe σ vs) ∧ Ext f.A.ex F1 H1 F' H' ∧ F' D = none ∧ H' D = some (.lst acc) ∧ RpAll f.K F' acc accD ∧
      lcGo mg mt me (wipeS ρ vs) (ds.drop i) u' = some (rest, s') ∧ accD ++ rest = ys, ⟨_, rfl, Nat.zero_le _, F1, s1, ys, [], [], ?_, ?_, nF, upd_same, .nil, e2, rfl⟩, ?_⟩
    · exact (st1.wipe vs hsv).poke nF n0 nx fun j hj d hd => by
        have hn := wipeS_none hd
        rw [wipeS_get hn] at hd
        rw [wipe_get hn]
        exact nown j hj d hd
    · exact (Ext.newO E1.sub nD).weak
    rintro i m H' ⟨rfl, hi, F', u', rest, acc, accD, stw, E, fD, hD, pD, hgo, hys⟩
    obtain ⟨go, stop⟩ := src F' H' E.sF stw.sub i
    by_cases hlt : i < ds.length
    · have hgd : ds[i]? = some ds[i] := List.getElem?_eq_getElem hlt
      obtain ⟨g1, g2⟩ := go _ hgd
      rw [List.drop_eq_getElem_cons hlt] at hgo
      unfold lcGo at hgo
      obtain ⟨ρ1, k1, hgo⟩ := bind_some hgo
      obtain ⟨b, s3, k2, hgo⟩ := bnd_some hgo
      refine .inr ⟨g1, fun H'' => i + 1 ≤ ds.length ∧ ∃ F' u' rest acc accD, Stt f.K f.A f.sv own F0 H0 F' H'' (wipeS ρ vs) u' (wipe σ vs) ∧ Ext f.A.ex F1 H1 F' H'' ∧ F' D = none ∧ H'' D = some (.lst acc) ∧ RpAll f.K F' acc accD ∧
        lcGo mg mt me (wipeS ρ vs) (ds.drop (i + 1)) u' = some (rest, s') ∧ accD ++ rest = ys, fun H'' w => ⟨_, by omega, rfl, w⟩, fun x H2 y => ?_⟩
      obtain ⟨F2, E2, r2⟩ := g2 x H2 y
      have st2 := stw.next E2.weak (f.A.ext stw.rel E2)
      have keepD : ∀ {Fa Ha Fb Hb : Hp}, Ext f.A.ex Fa Ha Fb Hb → Fa D = none → Ha D = some (.lst acc) → Fb D = none ∧ Hb D = some (.lst acc) := fun {Fa Ha Fb Hb} X hf hh => by
        refine ⟨?_, X.sH D _ nx hh⟩
        cases z : Fb D with
        | none => rfl
        | some u =>
          have := X.fr D hf (by rw [z]; exact Option.some_ne_none _)
          rw [hh] at this
          cases this
      obtain ⟨fD2, hD2⟩ := keepD E2.weak fD hD
      refine hg _ _ _ _ _ _ _ st2 x _ r2 ρ1 k1 _ fun σ2 st3 ag => ⟨wipe_ag ag hix, ?_⟩
      -- back to the wiped slots
      have back : ∀ {F' H' : Hp} {s' : S}, Ext f.A.ex F2 H2 F' H' → f.A.rel s' H' → Stt f.K f.A f.sv own F0 H0 F' H' (wipeS ρ vs) s' (wipe σ vs) := fun {F' H' s'} X r => st2.next X r
      have nown2 : ∀ j ∈ own, ∀ d, (wipeS ρ vs)[j]? = some (some d) → (wipe σ vs)[j]? ≠ some (some (.ref D)) := fun j hj d hd => by
        have hn := wipeS_none hd
        rw [wipeS_get hn] at hd
        rw [wipe_get hn]
        exact nown j hj d hd
      refine ht _ _ _ _ _ _ _ st3 b s3 k2 _ fun F3 H3 E3 r3 => ?_
      obtain ⟨fD3, hD3⟩ := keepD E3 fD2 hD2
      cases b with
      | false =>
        rw [if_neg Bool.false_ne_true] at hgo
        exact iteF ⟨hlt, F3, s3, rest, acc, accD, back E3 r3, (E.trans E2.weak).trans E3, fD3, hD3, RpAll.mo pD (E2.sF.trans E3.sF), hgo, hys⟩
      | true =>
        rw [if_pos rfl] at hgo
        obtain ⟨yd, s4, k3, hgo⟩ := bnd_some hgo
        obtain ⟨ys', s5, k4, hgo⟩ := bnd_some hgo
        cases hgo
        refine iteT ?_
        refine he _ _ _ _ _ _ _ (st3.next E3 r3) yd s4 k3 _ fun F4 H4 yv E4 r4 p4 => ?_
        obtain ⟨fD4, hD4⟩ := keepD E4 fD3 hD3
        have hlen : acc.length < sizeLine := by
          rw [RpAll.length pD]
          rw [← hys, List.length_append, List.length_cons] at hz
          omega
        refine ⟨acc, hD4, hlen, hlt, F4, s4, ys', acc ++ [yv], accD ++ [yd], ?_, ?_, fD4, upd_same, RpAll.append (RpAll.mo pD ((E2.sF.trans E3.sF).trans E4.sF)) (RpAll.single p4), k4, by rw [List.append_assoc]; exact hys⟩
        · exact (back (E3.trans E4) r4).poke fD4 n0 nx nown2
        · have X := ((E.trans E2.weak).trans E3).trans E4
          refine ⟨X.sF, fun b u n e => ?_, fun b n => ?_, fun b u e => ?_, X.fr⟩
          · rw [upd_ne (ne_of_none e nD)]; exact X.sH b u n e
          · by_cases z : b = D
            · rw [z, upd_same]; exact Option.some_ne_none _
            · rw [upd_ne z]; exact X.dom b n
          · rw [upd_ne (ne_of_none e fD4)]; exact X.sub b u e
    · have hi' : i = ds.length := by omega
      refine .inl ⟨stop hi', ?_⟩
      subst hi'
      rw [List.drop_length] at hgo
      cases hgo
      rw [List.append_nil] at hys
      subst hys
      exact q F' H' D acc accD (E1.trans E) stw.rel rfl fD (none_back E1 nD) hD pD
  · cases e
end

section
variable {S : Type} {f : Fam S} {own : List Nat}
theorem wo_lc {elt tg iter : Expr} {ifs : List Expr} {scope : Scope} {ownL : List (Str × Nat)} {ix : List Nat} {pos : Pos} {ms : LM S} {mg : GM} {mt : TM S} {me : EM S} (hi : WI f own tg iter ms) (ok : ∀ i, BlkOk (f.X i).N (f.X i).env.scope scope ownL)
    (hg : WG (f.blk scope) own ix tg mg) (ht : WTs (f.blk scope) own ifs mt) (he : WE (f.blk scope) own elt me) (hix : ∀ i ∈ ix, i ∈ ownL.map (·.2) := by decide) (hsv : (ownL.map (·.2)).all (svNe f.sv) = true := by rfl)
    (hs : ∀ i, ∀ x, foldedSetIterable iter (f.X i).env x = pure x := by intro _ _; rfl) : WO f own (.ListComp elt [⟨tg, iter, ifs, 0⟩] scope pos) (eLc ms (ownL.map (·.2)) mg mt me) := by
  obtain ⟨wi, pi, di⟩ := hi.ex
  obtain ⟨tg, pg, dg⟩ := hg.ex
  obtain ⟨tt, pt, dt⟩ := ht.ex
  obtain ⟨te, pe, de⟩ := he.ex
  exact ⟨_, fun i => pe_lc (f.calm i) (by rw [f.hN]; exact f.nd) (pi i) (ok i) (fun s H C cl fp => pg (i, s, H, C, cl, fp)) (fun s H C cl fp => pt (i, s, H, C, cl, fp)) (fun s H C cl fp => pe (i, s, H, C, cl, fp)) (hs i),
    do_lc di dg dt de hix fun j e hj => svNe_all hsv j hj e⟩

/-! ### statements -/
def After (f : Fam S) (F F0 H0 : Hp) (own' oB oC : List Nat) (s' : S) (De : Ends) : Res → Prop
  | .nx ρ' => ∀ F' H' σ', Same F F' → Stt f.K f.A f.sv own' F0 H0 F' H' ρ' s' σ' → De.nx σ' H'
  | .bk ρ' => ∀ F' H' σ', Same F F' → Stt f.K f.A f.sv oB F0 H0 F' H' ρ' s' σ' → De.bk σ' H'
  | .ct ρ' => ∀ F' H' σ', Same F F' → Stt f.K f.A f.sv oC F0 H0 F' H' ρ' s' σ' → De.ct σ' H'
  | .rt d => ∀ F' H' v, Ext f.A.ex F0 H0 F' H' → f.A.rel s' H' → Rp f.K F' v d → De.rt v H'
def DSt (f : Fam S) (own : List Nat) (t : TS) (m : SM S) (own' oB oC : List Nat) : Prop := ∀ F0 H0 F H ρ s σ, Stt f.K f.A f.sv own F0 H0 F H ρ s σ → ∀ r s', m ρ s = some (r, s') → ∀ De : Ends, After f F F0 H0 own' oB oC s' De r → t De σ H
structure WS (f : Fam S) (own : List Nat) (st : Stmt) (m : SM S) (own' oB oC : List Nat) : Prop where
  ex : ∃ t, (∀ i, PS (f.X i) st t) ∧ DSt f own t m own' oB oC
structure WSs (f : Fam S) (own : List Nat) (st : List Stmt) (m : SM S) (own' oB oC : List Nat) : Prop where
  ex : ∃ t, (∀ i, PSs (f.X i) st t) ∧ DSt f own t m own' oB oC
variable {own' own1 own2 oB oC : List Nat}
theorem After.mono {F F1 F0 H0 : Hp} {s' : S} {De : Ends} {r : Res} (h : After f F F0 H0 own' oB oC s' De r) (e : Same F F1) : After f F1 F0 H0 own' oB oC s' De r := by
  cases r with
  | nx ρ => exact fun F' H' σ' q => h F' H' σ' (e.trans q)
  | bk ρ => exact fun F' H' σ' q => h F' H' σ' (e.trans q)
  | ct ρ => exact fun F' H' σ' q => h F' H' σ' (e.trans q)
  | rt d => exact h
def sSeq (a b : SM S) : SM S := fun ρ s => bnd (a ρ s) fun r s1 => match r with
  | .nx ρ' => b ρ' s1
  | r => some (r, s1)
def sNx : SM S := fun ρ s => some (.nx ρ, s)
theorem wss_nil : WSs f own [] sNx own oB oC := by
  refine ⟨tNext, fun _ => pss_nil, ?_⟩
  intro F0 H0 F H ρ s σ st r s' e De h
  cases e
  exact h F H σ (Same.refl F) st
theorem wss_one {st : Stmt} {m : SM S} (h : WS f own st m own' oB oC) : WSs f own [st] m own' oB oC := let ⟨t, p, d⟩ := h.ex; ⟨t, fun i => pss_one (p i), d⟩
theorem wss_cons {st : Stmt} {rest : List Stmt} {m m' : SM S} (h : WS f own st m own1 oB oC) (h' : WSs f own1 rest m' own' oB oC) : WSs f own (st :: rest) (sSeq m m') own' oB oC := by
  obtain ⟨t, pt, dt⟩ := h.ex
  obtain ⟨u, pu, du⟩ := h'.ex
  refine ⟨_, fun i => pss_cons (pt i) (pu i), ?_⟩
  intro F0 H0 F H ρ s σ st r s' e De ha
  obtain ⟨r1, s1, e1, e⟩ := bnd_some e
  refine dt _ _ _ _ _ _ _ st r1 s1 e1 _ ?_
  cases r1 with
  | nx ρ1 => exact fun F' H' σ' q st1 => du _ _ _ _ _ _ _ st1 r s' e De (ha.mono q)
  | bk ρ1 => cases e; exact ha
  | ct ρ1 => cases e; exact ha
  | rt d => cases e; exact ha
/-- a slot is frozen behind the statement -/
theorem ws_fz {st : Stmt} {m : SM S} (i : Nat) (h : WS f own st m own1 oB oC) (ho : own' = own1.filter (· != i) := by rfl) : WS f own st m own' oB oC := by
  subst ho
  obtain ⟨t, pt, dt⟩ := h.ex
  refine ⟨t, pt, ?_⟩
  intro F0 H0 F H ρ s σ st r s' e De ha
  refine dt _ _ _ _ _ _ _ st r s' e De ?_
  cases r with
  | nx ρ1 =>
    intro F' H' σ' q st1
    obtain ⟨F2, st2, q2⟩ := st1.fzS i
    exact ha F2 H' σ' (q.trans q2) st2
  | bk ρ1 => exact ha
  | ct ρ1 => exact ha
  | rt d => exact ha
/-- .. ahead of a block -/
theorem wss_fz {st : List Stmt} {m : SM S} (i : Nat) (h : WSs f own1 st m own' oB oC) (ho : own1 = own.filter (· != i) := by rfl) : WSs f own st m own' oB oC := by
  subst ho
  obtain ⟨t, pt, dt⟩ := h.ex
  refine ⟨t, pt, ?_⟩
  intro F0 H0 F H ρ s σ st r s' e De ha
  obtain ⟨F2, st2, q2⟩ := st.fzS i
  exact dt _ _ _ _ _ _ _ st2 r s' e De (ha.mono q2)
/-! assignments -/
def sSet (i : Nat) (m : EM S) : SM S := fun ρ s => bnd (m ρ s) fun d s1 => some (.nx (ρ.set i (some d)), s1)
theorem ds_set {i : Nat} {te : TE} {m : EM S} (h : DE f own te m) (hs : f.sv ≠ some i) (h1 : ∀ j ∈ own', j ∈ own ∧ j ≠ i) (h2 : ∀ j ∈ own, j ≠ i → j ∈ own') : DSt f own (tAsg te (gName i)) (sSet i m) own' oB oC := by
  intro F0 H0 F H ρ s σ st r s' e De ha
  obtain ⟨d, s1, e1, e⟩ := bnd_some e
  cases e
  refine h _ _ _ _ _ _ _ st d _ e1 _ fun F1 H1 v E1 r1 p1 => ?_
  exact ha F1 H1 _ E1.sF ((st.next E1 r1).set p1 hs h1 h2)
theorem ds_setO {i : Nat} {te : TE} {m : EM S} (h : DO f own te m) (hs : f.sv ≠ some i) (h1 : ∀ j ∈ own', j = i ∨ (j ∈ own ∧ j ≠ i)) (h2 : ∀ j ∈ own, j ≠ i → j ∈ own') (h3 : i ∈ own') : DSt f own (tAsg te (gName i)) (sSet i m) own' oB oC := by
  intro F0 H0 F H ρ s σ st r s' e De ha
  obtain ⟨d, s1, e1, e⟩ := bnd_some e
  cases e
  refine h _ _ _ _ _ _ _ st d _ e1 _ fun F1 H1 o vs ds E1 r1 ed n1 n2 g1 p1 => ?_
  have st1 := st.next E1 r1
  subst ed
  refine ha F1 H1 _ E1.sF ⟨st1.ext, st1.rel, st1.exF, by rw [List.length_set, List.length_set, st.len], fun j e => ?_, fun j c hj nj => ?_, fun j hj c hc => ?_, fun j hj l hl ne oa ob c c' k1 k2 k3 k4 => ?_⟩
  · rw [List.getElem?_set_ne (fun z => hs (by rw [e, z]))]
    exact st.root j e
  · have hji : i ≠ j := fun z => nj (by rw [← z]; exact h3)
    rw [List.getElem?_set_ne hji] at hj ⊢
    exact st1.dat j c hj fun w => nj (h2 j w fun z => hji z.symm)
  · by_cases z : i = j
    · subst z
      by_cases hl : i < ρ.length
      · rw [List.getElem?_set_self hl] at hc
        cases hc
        exact ⟨o, vs, ds, List.getElem?_set_self (by rw [st.len]; exact hl), rfl, n1, none_back st.ext n2, fun hb => f.A.dom s H st.rel o hb n2, g1, p1⟩
      · rw [List.getElem?_eq_none (by rw [List.length_set]; omega)] at hc
        cases hc
    · rw [List.getElem?_set_ne z] at hc ⊢
      rcases h1 j hj with q | q
      · exact absurd q.symm z
      · exact st1.ow j q.1 c hc
  · have old : ∀ j ∈ own, ∀ c oa, ρ[j]? = some (some c) → σ[j]? = some (some (V.ref oa)) → oa ≠ o := fun j hj c oa q1 q2 q3 => by
      obtain ⟨o', _, _, w1, _, _, _, _, w2, _⟩ := st.ow j hj c q1
      rw [w1] at q2
      cases q2
      rw [q3, n2] at w2
      cases w2
    have self : ∀ {k : Nat} {oa : Addr} {c : D}, i = k → (ρ.set i (some (PyData.list ds)))[k]? = some (some c) → (σ.set i (some (V.ref o)))[k]? = some (some (V.ref oa)) → oa = o := fun {k oa c} z q1 q2 => by
      subst z
      by_cases hl : i < ρ.length
      · rw [List.getElem?_set_self (by rw [st.len]; exact hl)] at q2
        cases q2
        rfl
      · rw [List.getElem?_eq_none (by rw [List.length_set]; omega)] at q1
        cases q1
    by_cases z : i = j
    · have ea := self z k1 k3
      have zl : i ≠ l := fun w => ne (z.symm.trans w)
      rw [List.getElem?_set_ne zl] at k2 k4
      rcases h1 l hl with q | q
      · exact absurd q.symm zl
      · rw [ea]
        exact fun w => old l q.1 _ _ k2 k4 w.symm
    · rcases h1 j hj with q | q
      · exact absurd q.symm z
      rw [List.getElem?_set_ne z] at k1 k3
      by_cases zl : i = l
      · have eb := self zl k2 k4
        rw [eb]
        exact old j q.1 _ _ k1 k3
      · rcases h1 l hl with q' | q'
        · exact absurd q'.symm zl
        rw [List.getElem?_set_ne zl] at k2 k4
        exact st.dis j q.1 l q'.1 ne oa ob c c' k1 k2 k3 k4
theorem ws_set {x : Str} {e : Expr} {m : EM S} {pos pos' : Pos} (i : Nat) (he : WE f own e m) (own' : List Nat) (hi : f.N[i]? = some x := by rfl) (hx : ∀ j, Loc (f.X j).env.scope x := by intro _; first | exact Or.inl rfl | exact Or.inr rfl)
    (hs : ∀ j, swapsWith e (some (.Name x pos')) pos.line (f.X j).env = pure false := by intro _; rfl) (hf : ∀ j, (f.X j).fn x = true ∨ (f.X j).env.scope.names.lookup x = some .local := by intro _; first | exact .inl rfl | exact .inr rfl)
    (hv : svNe f.sv i = true := by rfl) (h1 : ∀ j ∈ own', j ∈ own ∧ j ≠ i := by decide) (h2 : ∀ j ∈ own, j ≠ i → j ∈ own' := by decide) : WS f own (.Assign [.Name x pos'] e pos) (sSet i m) own' oB oC := by
  obtain ⟨t, pt, dt⟩ := he.ex
  exact ⟨_, fun j => ps_set (by rw [f.hN]; exact f.nd) (by rw [f.hN]; exact hi) (hx j) (pt j) (hs j) (hf j), ds_set dt (svNe_ok hv) h1 h2⟩
theorem ws_setO {x : Str} {e : Expr} {m : EM S} {pos pos' : Pos} (i : Nat) (he : WO f own e m) (own' : List Nat) (hi : f.N[i]? = some x := by rfl) (hx : ∀ j, Loc (f.X j).env.scope x := by intro _; first | exact Or.inl rfl | exact Or.inr rfl)
    (hs : ∀ j, swapsWith e (some (.Name x pos')) pos.line (f.X j).env = pure false := by intro _; rfl) (hf : ∀ j, (f.X j).fn x = true ∨ (f.X j).env.scope.names.lookup x = some .local := by intro _; first | exact .inl rfl | exact .inr rfl)
    (hv : svNe f.sv i = true := by rfl) (h1 : ∀ j ∈ own', j = i ∨ (j ∈ own ∧ j ≠ i) := by decide) (h2 : ∀ j ∈ own, j ≠ i → j ∈ own' := by decide) (h3 : i ∈ own' := by decide) : WS f own (.Assign [.Name x pos'] e pos) (sSet i m) own' oB oC := by
  obtain ⟨t, pt, dt⟩ := he.ex
  exact ⟨_, fun j => ps_set (by rw [f.hN]; exact f.nd) (by rw [f.hN]; exact hi) (hx j) (pt j) (hs j) (hf j), ds_setO dt (svNe_ok hv) h1 h2 h3⟩
end
end G

/-! The data layer's rules, 4: further statements, loops, defs and their calls. -/
namespace G
open PySem PySem.Spec PyProof.Rows L2
section
variable {S : Type} {f : Fam S} {own own' own1 oB oC : List Nat}
/-- y = [.. for ..] in one line, y a local: the list is owned -/
theorem ws_lcO {y : Str} {py : Pos} {elt tg iter : Expr} {ifs : List Expr} {scope : Scope} {ownL : List (Str × Nat)} {ix : List Nat} {pos spos : Pos} {ms : LM S} {mg : GM} {mt : TM S} {me : EM S} (i : Nat) (hi : WI f own tg iter ms) (ok : ∀ i, BlkOk (f.X i).N (f.X i).env.scope scope ownL)
    (hg : WG (f.blk scope) own ix tg mg) (ht : WTs (f.blk scope) own ifs mt) (he : WE (f.blk scope) own elt me) (own' : List Nat) (hy : f.N[i]? = some y := by rfl) (hyl : ∀ j, List.lookup y (f.X j).env.scope.names = some .local := by intro _; rfl)
    (hsw : ∀ j, swapsWith (.ListComp elt [⟨tg, iter, ifs, 0⟩] scope pos) (some (.Name y py)) spos.line (f.X j).env = pure true := by intro _; exact sw_true rfl rfl rfl (by decide +kernel))
    (hix : ∀ i ∈ ix, i ∈ ownL.map (·.2) := by decide) (hsv : (ownL.map (·.2)).all (svNe f.sv) = true := by rfl) (hv : svNe f.sv i = true := by rfl)
    (hs : ∀ i, ∀ x, foldedSetIterable iter (f.X i).env x = pure x := by intro _ _; rfl)
    (h1 : ∀ j ∈ own', j = i ∨ (j ∈ own ∧ j ≠ i) := by decide) (h2 : ∀ j ∈ own, j ≠ i → j ∈ own' := by decide) (h3 : i ∈ own' := by decide) : WS f own (.Assign [.Name y py] (.ListComp elt [⟨tg, iter, ifs, 0⟩] scope pos) spos) (sSet i (eLc ms (ownL.map (·.2)) mg mt me)) own' oB oC := by
  obtain ⟨wi, pi, di⟩ := hi.ex
  obtain ⟨tg, pg, dg⟩ := hg.ex
  obtain ⟨tt, pt, dt⟩ := ht.ex
  obtain ⟨te, pe, de⟩ := he.ex
  exact ⟨_, fun i => ps_setLc (f.calm i) (by rw [f.hN]; exact f.nd) (by rw [f.hN]; exact hy) (hyl i) (hsw i) (pi i) (ok i) (fun s H C cl fp => pg (i, s, H, C, cl, fp)) (fun s H C cl fp => pt (i, s, H, C, cl, fp)) (fun s H C cl fp => pe (i, s, H, C, cl, fp)) (hs i),
    ds_setO (do_lc di dg dt de hix fun j e hj => svNe_all hsv j hj e) (svNe_ok hv) h1 h2 h3⟩
/-- .. the list is frozen -/
theorem ws_lc {y : Str} {py : Pos} {elt tg iter : Expr} {ifs : List Expr} {scope : Scope} {ownL : List (Str × Nat)} {ix : List Nat} {pos spos : Pos} {ms : LM S} {mg : GM} {mt : TM S} {me : EM S} (i : Nat) (hi : WI f own tg iter ms) (ok : ∀ i, BlkOk (f.X i).N (f.X i).env.scope scope ownL)
    (hg : WG (f.blk scope) own ix tg mg) (ht : WTs (f.blk scope) own ifs mt) (he : WE (f.blk scope) own elt me) (own' : List Nat) (hy : f.N[i]? = some y := by rfl) (hyl : ∀ j, List.lookup y (f.X j).env.scope.names = some .local := by intro _; rfl)
    (hsw : ∀ j, swapsWith (.ListComp elt [⟨tg, iter, ifs, 0⟩] scope pos) (some (.Name y py)) spos.line (f.X j).env = pure true := by intro _; exact sw_true rfl rfl rfl (by decide +kernel))
    (hix : ∀ i ∈ ix, i ∈ ownL.map (·.2) := by decide) (hsv : (ownL.map (·.2)).all (svNe f.sv) = true := by rfl) (hv : svNe f.sv i = true := by rfl)
    (hs : ∀ i, ∀ x, foldedSetIterable iter (f.X i).env x = pure x := by intro _ _; rfl)
    (h1 : ∀ j ∈ own', j ∈ own ∧ j ≠ i := by decide) (h2 : ∀ j ∈ own, j ≠ i → j ∈ own' := by decide) : WS f own (.Assign [.Name y py] (.ListComp elt [⟨tg, iter, ifs, 0⟩] scope pos) spos) (sSet i (eLc ms (ownL.map (·.2)) mg mt me)) own' oB oC := by
  obtain ⟨wi, pi, di⟩ := hi.ex
  obtain ⟨tg, pg, dg⟩ := hg.ex
  obtain ⟨tt, pt, dt⟩ := ht.ex
  obtain ⟨te, pe, de⟩ := he.ex
  exact ⟨_, fun i => ps_setLc (f.calm i) (by rw [f.hN]; exact f.nd) (by rw [f.hN]; exact hy) (hyl i) (hsw i) (pi i) (ok i) (fun s H C cl fp => pg (i, s, H, C, cl, fp)) (fun s H C cl fp => pt (i, s, H, C, cl, fp)) (fun s H C cl fp => pe (i, s, H, C, cl, fp)) (hs i),
    ds_set (DO.de (do_lc di dg dt de hix fun j e hj => svNe_all hsv j hj e)) (svNe_ok hv) h1 h2⟩

/-! ### a, b = e -/
def sTg (m : EM S) (g : GM) : SM S := fun ρ s => bnd (m ρ s) fun d s1 => (g d ρ).bind fun ρ' => some (.nx ρ', s1)
theorem ws_tg {ix : List Nat} {tg e : Expr} {m : EM S} {g : GM} {pos : Pos} (he : WE f own e m) (hg : WG f own ix tg g) (hs : ∀ j, swapsWithSole [tg] e pos.line (f.X j).env = pure false := by intro _; rfl) (hw : ∀ j, swappedStores [tg] e (f.X j).env = pure none := by intro _; rfl)
    (h1 : ∀ j, (assignEach [tg] (f.X j).env).map (·.2) = [assign tg (f.X j).env] := by intro _; rfl) : WS f own (.Assign [tg] e pos) (sTg m g) own oB oC := by
  obtain ⟨t, pt, dt⟩ := he.ex
  obtain ⟨u, pu, du⟩ := hg.ex
  refine ⟨_, fun j => ps_asg (pt j) (pu j) (hs j) (hw j) (h1 j), ?_⟩
  intro F0 H0 F H ρ s σ st r s' e De ha
  obtain ⟨d, s1, e1, e⟩ := bnd_some e
  obtain ⟨ρ', e2, e⟩ := bind_some e
  cases e
  refine dt _ _ _ _ _ _ _ st d _ e1 _ fun F1 H1 v E1 r1 p1 => ?_
  exact du _ _ _ _ _ _ _ (st.next E1 r1) v d p1 _ e2 _ fun σ' st' ag => ha F1 H1 σ' E1.sF st'
/-- a, b = x, y: plain local names -/
def sPar (i j : Nat) (m : LM S) : SM S := fun ρ s => bnd (m ρ s) fun ds s1 => match ds with
  | [x, y] => some (.nx ((ρ.set i (some x)).set j (some y)), s1)
  | _ => none
theorem ws_par {x y : Str} {a b : Expr} {m : LM S} {px py pt pos : Pos} {kt k2 pt2} (i j : Nat) (ha : WA f own [a, b] m) (hi : f.N[i]? = some x := by rfl) (hj : f.N[j]? = some y := by rfl) (hij : i ≠ j := by decide)
    (hx : ∀ l, (f.X l).env.scope.names.lookup x = some .local := by intro _; rfl) (hy : ∀ l, (f.X l).env.scope.names.lookup y = some .local := by intro _; rfl)
    (hw : ∀ l, swappedStores [.Tuple [.Name x px, .Name y py] kt pt] (.Tuple [a, b] k2 pt2) (f.X l).env = pure (some [x, y]) := by intro _; rfl)
    (ni : ∀ k ∈ own, k ≠ i ∧ k ≠ j := by decide) (hv : svNe f.sv i = true := by rfl) (hv2 : svNe f.sv j = true := by rfl) :
    WS f own (.Assign [.Tuple [.Name x px, .Name y py] kt pt] (.Tuple [a, b] k2 pt2) pos) (sPar i j m) own oB oC := by
  obtain ⟨t, pt, dt⟩ := ha.ex
  refine ⟨_, fun l => ps_par (f.calm l) (by rw [f.hN]; exact f.nd) (by rw [f.hN]; exact hi) (by rw [f.hN]; exact hj) hij (hx l) (hy l) (pt l) (hw l), ?_⟩
  intro F0 H0 F H ρ s σ st r s' e De ha
  obtain ⟨ds, s1, e1, e⟩ := bnd_some e
  split at e
  · cases e
    refine dt _ _ _ _ _ _ _ st _ _ e1 _ fun F1 H1 vs E1 r1 p1 => ?_
    obtain ⟨v, w, rfl, q1, q2⟩ := rp2 p1
    refine ⟨v, w, rfl, ha F1 H1 _ E1.sF ?_⟩
    exact ((st.next E1 r1).set (own' := own) q1 (svNe_ok hv) (fun k hk => ⟨hk, (ni k hk).1⟩) (fun k hk _ => hk)).set q2 (svNe_ok hv2) (fun k hk => ⟨hk, (ni k hk).2⟩) (fun k hk _ => hk)
  · cases e
def sPar3 (i j l : Nat) (m : LM S) : SM S := fun ρ s => bnd (m ρ s) fun ds s1 => match ds with
  | [x, y, z] => some (.nx (((ρ.set i (some x)).set j (some y)).set l (some z)), s1)
  | _ => none
theorem rp3 {K : Frag} {F : Hp} {vs : List V} {d e g : D} (h : RpAll K F vs [d, e, g]) : ∃ v w u, vs = [v, w, u] ∧ Rp K F v d ∧ Rp K F w e ∧ Rp K F u g := by
  cases h with
  | cons a b =>
    obtain ⟨w, u, rfl, c⟩ := rp2 b
    exact ⟨_, w, u, rfl, a, c⟩
theorem ws_par3 {x y z : Str} {a b c : Expr} {m : LM S} {px py pz pt pos : Pos} {kt k2 pt2} (i j l : Nat) (ha : WA f own [a, b, c] m) (hi : f.N[i]? = some x := by rfl) (hj : f.N[j]? = some y := by rfl) (hl : f.N[l]? = some z := by rfl) (hij : i ≠ j := by decide) (hil : i ≠ l := by decide) (hjl : j ≠ l := by decide)
    (hx : ∀ l, (f.X l).env.scope.names.lookup x = some .local := by intro _; rfl) (hy : ∀ l, (f.X l).env.scope.names.lookup y = some .local := by intro _; rfl) (hz : ∀ l, (f.X l).env.scope.names.lookup z = some .local := by intro _; rfl)
    (hw : ∀ l, swappedStores [.Tuple [.Name x px, .Name y py, .Name z pz] kt pt] (.Tuple [a, b, c] k2 pt2) (f.X l).env = pure (some [x, y, z]) := by intro _; rfl)
    (ni : ∀ k ∈ own, k ≠ i ∧ k ≠ j ∧ k ≠ l := by decide) (hv : svNe f.sv i = true := by rfl) (hv2 : svNe f.sv j = true := by rfl) (hv3 : svNe f.sv l = true := by rfl) :
    WS f own (.Assign [.Tuple [.Name x px, .Name y py, .Name z pz] kt pt] (.Tuple [a, b, c] k2 pt2) pos) (sPar3 i j l m) own oB oC := by
  obtain ⟨t, pt, dt⟩ := ha.ex
  refine ⟨_, fun k => ps_par3 (f.calm k) (by rw [f.hN]; exact f.nd) (by rw [f.hN]; exact hi) (by rw [f.hN]; exact hj) (by rw [f.hN]; exact hl) hij hil hjl (hx k) (hy k) (hz k) (pt k) (hw k), ?_⟩
  intro F0 H0 F H ρ s σ st r s' e De ha
  obtain ⟨ds, s1, e1, e⟩ := bnd_some e
  split at e
  · cases e
    refine dt _ _ _ _ _ _ _ st _ _ e1 _ fun F1 H1 vs E1 r1 p1 => ?_
    obtain ⟨v, w, u, rfl, q1, q2, q3⟩ := rp3 p1
    refine ⟨v, w, u, rfl, ha F1 H1 _ E1.sF ?_⟩
    exact (((st.next E1 r1).set (own' := own) q1 (svNe_ok hv) (fun k hk => ⟨hk, (ni k hk).1⟩) (fun k hk _ => hk)).set (own' := own) q2 (svNe_ok hv2) (fun k hk => ⟨hk, (ni k hk).2.1⟩) (fun k hk _ => hk)).set q3 (svNe_ok hv3) (fun k hk => ⟨hk, (ni k hk).2.2⟩) (fun k hk _ => hk)
  · cases e

/-! ### a list that a slot owns is changed -/
theorem Stt.mut {K : Frag} {A : Amb S} {sv : Option Nat} {own : List Nat} {F0 H0 F H : Hp} {ρ : Slots} {s : S} {σ : L2.St} {i : Nat} {o : Addr} {d : D} {vs : List V} {ds : List D} (st : Stt K A sv own F0 H0 F H ρ s σ) (hi : i ∈ own) (e1 : σ[i]? = some (some (.ref o))) (e2 : ρ[i]? = some (some d))
    (p : RpAll K F vs ds) : Stt K A sv own F0 H0 F (upd H o (.lst vs)) (ρ.set i (some (.list ds))) s σ := by
  obtain ⟨o', vs', ds', q1, q2, n1, n2, n3, h1, r1⟩ := st.ow i hi d e2
  rw [e1] at q1
  cases q1
  have hlen : i < ρ.length := (List.getElem?_eq_some_iff.mp e2).1
  refine ⟨⟨st.ext.sF, fun b u n e => by rw [upd_ne (ne_of_none e n2)]; exact st.ext.sH b u n e, fun b n => ?_, fun b u e => by rw [upd_ne (ne_of_none e n1)]; exact st.sub _ _ e, st.ext.fr⟩,
    A.keep s H _ st.rel fun b hb u e => by rw [upd_ne (fun z => n3 (by rw [← z]; exact hb))]; exact e, st.exF, by rw [List.length_set, st.len], st.root, fun j c hj nj => ?_, fun j hj c hc => ?_, fun j hj l hl ne oa ob c c' k1 k2 k3 k4 => ?_⟩
  · by_cases z : b = o
    · rw [z, upd_same]; exact Option.some_ne_none _
    · rw [upd_ne z]; exact st.ext.dom b n
  · rw [List.getElem?_set_ne (fun z => nj (by rw [← z]; exact hi))] at hj
    exact st.dat j c hj nj
  · by_cases z : i = j
    · subst z
      rw [List.getElem?_set_self hlen] at hc
      cases hc
      exact ⟨o, vs, ds, e1, rfl, n1, n2, n3, upd_same, p⟩
    · rw [List.getElem?_set_ne z] at hc
      obtain ⟨o2, vs2, ds2, w1, w2, w3, w4, w5, w6, w7⟩ := st.ow j hj c hc
      have : o2 ≠ o := st.dis j hj i hi (fun q => z q.symm) o2 o c d hc e2 w1 e1
      exact ⟨o2, vs2, ds2, w1, w2, w3, w4, w5, by rw [upd_ne this]; exact w6, w7⟩
  · have back : ∀ {k : Nat} {c : D}, (ρ.set i (some (PyData.list ds)))[k]? = some (some c) → ∃ c', ρ[k]? = some (some c') := fun {k c} w => by
      by_cases z : i = k
      · subst z; exact ⟨d, e2⟩
      · rw [List.getElem?_set_ne z] at w; exact ⟨c, w⟩
    obtain ⟨c1, k1⟩ := back k1
    obtain ⟨c2, k2⟩ := back k2
    exact st.dis j hj l hl ne oa ob c1 c2 k1 k2 k3 k4
/-- x[k] = e -/
def sIx (i : Nat) (mi me : EM S) : SM S := fun ρ s => bnd (me ρ s) fun d s1 => bnd (eVar i ρ s1) fun l s2 => bnd (mi ρ s2) fun k s3 => match l, k with
  | .list ds, .int k => (ixN ds.length k).bind fun j => some (.nx (ρ.set i (some (.list (ds.set j d)))), s3)
  | _, _ => none
theorem ws_six {x : Str} {e ie : Expr} {mi me : EM S} {p1 p2 pos : Pos} (i : Nat) (hk : WE f own ie mi) (he : WE f own e me) (io : i ∈ own := by decide) (hN : f.N[i]? = some x := by rfl) (hv : ∀ j, Vis (f.X j).env.scope x := by intro _; first | exact Or.inl rfl | exact Or.inr (Or.inl rfl) | exact Or.inr (Or.inr rfl))
    (hd : (x == ("__debug__" : Str)) = false := by decide) (hcd : (x == ("__classdict__" : Str)) = false := by decide)
    (ha : ∀ j, ∀ v, assign (.Subscript (.Name x p1) ie p2) (f.X j).env v = (do
      let ov ← holding [v] (eval (.Name x p1) (f.X j).env)
      let iv ← holding [v, ov] (eval ie (f.X j).env)
      standAt p2
      holding [v, ov, iv] (setItem ov iv v)
      release [v, ov, iv] []) := by intro _ _; rfl)
    (hs : ∀ j, swapsWithSole [.Subscript (.Name x p1) ie p2] e pos.line (f.X j).env = pure false := by intro _; rfl) (hw : ∀ j, swappedStores [.Subscript (.Name x p1) ie p2] e (f.X j).env = pure none := by intro _; rfl)
    (h1 : ∀ j, (assignEach [.Subscript (.Name x p1) ie p2] (f.X j).env).map (·.2) = [assign (.Subscript (.Name x p1) ie p2) (f.X j).env] := by intro _; rfl) :
    WS f own (.Assign [.Subscript (.Name x p1) ie p2] e pos) (sIx i mi me) own oB oC := by
  obtain ⟨te, pe, de⟩ := he.ex
  obtain ⟨ti, pi, di⟩ := hk.ex
  refine ⟨_, fun j => ps_asg (pe j) (pg_sub (pe_var (by rw [f.hN]; exact hN) (hv j) hd hcd) (pi j) set_list (ha j)) (hs j) (hw j) (h1 j), ?_⟩
  intro F0 H0 F H ρ s σ st r s' e De ha
  obtain ⟨d, s1, e1, y1⟩ := bnd_some e
  obtain ⟨l, s2, e2, y2⟩ := bnd_some y1
  obtain ⟨k, s3, e3, y3⟩ := bnd_some y2
  obtain ⟨e4, e6⟩ := eVar_some e2
  rw [e6] at e3
  clear e y1 y2 e2
  split at y3
  · obtain ⟨j, e5, y4⟩ := bind_some y3
    cases y4
    refine de _ _ _ _ _ _ _ st d _ e1 _ fun F1 H1 v E1 r1 p1 => ?_
    have st1 := st.next E1 r1
    obtain ⟨o, vs, ds, g1, g2, n1, n2, n3, g3, g4⟩ := st1.ow i io _ e4
    cases g2
    refine ⟨.ref o, g1, ?_⟩
    refine di _ _ _ _ _ _ _ st1 _ _ e3 _ fun F2 H2 u E2 r2 p2 => ?_
    have st2 := st1.next E2 r2
    cases p2
    refine ⟨o, vs, _, j, rfl, rfl, E2.sH _ _ n3 g3, by rw [RpAll.length g4]; exact e5, ?_⟩
    exact ha F2 _ _ (E1.sF.trans E2.sF) (st2.mut io g1 e4 (RpAll.set (Rp.mo p1 E2.sF) j (RpAll.mo g4 E2.sF)))
  · cases y3
/-- x.append(e) -/
def sApp (i : Nat) (me : EM S) : SM S := fun ρ s => bnd (eVar i ρ s) fun l s1 => bnd (me ρ s1) fun d s2 => match l with
  | .list ds => if ds.length < sizeLine then some (.nx (ρ.set i (some (.list (ds ++ [d])))), s2) else none
  | _ => none
theorem ws_app {x : Str} {e : Expr} {me : EM S} {p1 apos cpos pos : Pos} (i : Nat) (he : WE f own e me) (io : i ∈ own := by decide) (hN : f.N[i]? = some x := by rfl) (hv : ∀ j, Vis (f.X j).env.scope x := by intro _; first | exact Or.inl rfl | exact Or.inr (Or.inl rfl) | exact Or.inr (Or.inr rfl))
    (hd : (x == ("__debug__" : Str)) = false := by decide) (hcd : (x == ("__classdict__" : Str)) = false := by decide)
    (hbase : ∀ j, attributeBase (.Name x p1) "append" (f.X j).env (eval (.Name x p1) (f.X j).env) = eval (.Name x p1) (f.X j).env := by intro _; rfl)
    (hfew : ∀ j, ((backTo cpos (starEach [e] (f.X j).env)).all (fun x => !x.1) && (backToKw cpos (keywordEach [] (f.X j).env)).all (fun x => x.1.isSome)
      && decide ([e].length + ([] : List Keyword).length + (if ([] : List Keyword).isEmpty then 0 else 1) < 30)) = true := by intro _; rfl)
    (hline : (apos.endLine == cpos.line) = true := by rfl) (hs : ∀ j, starEach [e] (f.X j).env = (false, eval e (f.X j).env) :: starEach [] (f.X j).env := by intro _; rfl) (hplain : ∀ j, (backTo cpos (starEach [] (f.X j).env)).any (·.1) = false := by intro _; rfl)
    (hsw : ∀ j, swapsWith (.Call (.Attribute (.Name x p1) "append" apos) [e] [] cpos) none pos.line (f.X j).env = pure false := by intro _; rfl) :
    WS f own (.Expr (.Call (.Attribute (.Name x p1) "append" apos) [e] [] cpos) pos) (sApp i me) own oB oC := by
  obtain ⟨te, pe, de⟩ := he.ex
  refine ⟨_, fun j => f.hK j ▸ ps_expr (pe_bm PySem.F.plainAttrs_list PySem.F.slot_list_append PySem.F.type_list_append mt_append (pe_var (by rw [f.hN]; exact hN) (hv j) hd hcd) (pa_cons (pe j) pa_nil (hs j)) (hbase j) (hfew j) hline (hs j) (hplain j)) (hsw j), ?_⟩
  intro F0 H0 F H ρ s σ st r s' e De ha
  obtain ⟨l, s1, e2, y1⟩ := bnd_some e
  obtain ⟨d, s2, e1, y2⟩ := bnd_some y1
  obtain ⟨e4, e6⟩ := eVar_some e2
  rw [e6] at e1
  clear e y1 e2
  have e := y2
  clear y2
  split at e
  · split at e
    · rename_i hz
      cases e
      obtain ⟨o, vs, ds, g1, g2, n1, n2, n3, g3, g4⟩ := st.ow i io _ e4
      cases g2
      refine ⟨.ref o, g1, .inl ⟨rfl, _, SqL.of g3⟩, ?_⟩
      refine de _ _ _ _ _ _ _ st d _ e1 _ fun F1 H1 v E1 r1 p1 => ?_
      refine ⟨o, vs, v, rfl, rfl, E1.sH _ _ n3 g3, by rw [RpAll.length g4]; exact hz, ?_⟩
      exact ha F1 _ _ E1.sF ((st.next E1 r1).mut io g1 e4 (RpAll.append (RpAll.mo g4 E1.sF) (RpAll.single p1)))
    · cases e
  · cases e

/-! ### return, if, pass, break, continue, an expression alone, x += e -/
def sRet (m : EM S) : SM S := fun ρ s => bnd (m ρ s) fun d s1 => some (.rt d, s1)
theorem ws_ret {e : Expr} {m : EM S} {pos : Pos} (h : WE f own e m) : WS f own (.Return (some e) pos) (sRet m) own' oB oC := by
  obtain ⟨t, pt, dt⟩ := h.ex
  refine ⟨_, fun i => ps_ret (pt i), ?_⟩
  intro F0 H0 F H ρ s σ st r s' e De ha
  obtain ⟨d, s1, e1, e⟩ := bnd_some e
  cases e
  exact dt _ _ _ _ _ _ _ st d _ e1 _ fun F1 H1 v E1 r1 p1 => ha F1 H1 v (st.ext.trans E1) r1 p1
/-- return x, x an owned list -/
theorem ws_retO {x : Str} {pos p1 : Pos} (i : Nat) (h : WE f (own.filter (· != i)) (.Name x p1) (eVar i)) : WS f own (.Return (some (.Name x p1)) pos) (sRet (eVar i)) own' oB oC := by
  obtain ⟨t, pt, dt⟩ := h.ex
  refine ⟨_, fun i => ps_ret (pt i), ?_⟩
  intro F0 H0 F H ρ s σ st r s' e De ha
  obtain ⟨d, s1, e1, e⟩ := bnd_some e
  cases e
  obtain ⟨F2, st2, q2⟩ := st.fzS i
  exact dt _ _ _ _ _ _ _ st2 d _ e1 _ fun F1 H1 v E1 r1 p1 => ha F1 H1 v (st2.ext.trans E1) r1 p1
def sIf (t : TM S) (a b : SM S) : SM S := fun ρ s => bnd (t ρ s) fun k s1 => if k = true then a ρ s1 else b ρ s1
theorem ws_if {c : Expr} {a b : List Stmt} {mc : TM S} {ma mb : SM S} {pos : Pos} (hc : WT f own c mc) (ha : WSs f own a ma own' oB oC) (hb : WSs f own b mb own' oB oC) : WS f own (.If c a b pos) (sIf mc ma mb) own' oB oC := by
  obtain ⟨tc, pc, dc⟩ := hc.ex
  obtain ⟨ta, pa, da⟩ := ha.ex
  obtain ⟨tb, pb, db⟩ := hb.ex
  refine ⟨_, fun i => ps_if (pc i) (pa i) (pb i), ?_⟩
  intro F0 H0 F H ρ s σ st r s' e De ha
  obtain ⟨k, s1, e1, e⟩ := bnd_some e
  refine dc _ _ _ _ _ _ _ st k s1 e1 _ fun F1 H1 E1 r1 => ?_
  cases k with
  | true => exact iteT (da _ _ _ _ _ _ _ (st.next E1 r1) r s' e De (ha.mono E1.sF))
  | false => exact iteF (db _ _ _ _ _ _ _ (st.next E1 r1) r s' e De (ha.mono E1.sF))
theorem ws_pass {pos : Pos} : WS f own (.Pass pos) sNx own oB oC := by
  refine ⟨tNext, fun _ => ps_pass, ?_⟩
  intro F0 H0 F H ρ s σ st r s' e De h
  cases e
  exact h F H σ (Same.refl F) st
def sBk : SM S := fun ρ s => some (.bk ρ, s)
def sCt : SM S := fun ρ s => some (.ct ρ, s)
theorem ws_break {pos : Pos} : WS f oB (.Break pos) sBk own' oB oC := by
  refine ⟨tBreak, fun _ => ps_break, ?_⟩
  intro F0 H0 F H ρ s σ st r s' e De h
  cases e
  exact h F H σ (Same.refl F) st
theorem ws_cont {pos : Pos} : WS f oC (.Continue pos) sCt own' oB oC := by
  refine ⟨tCont, fun _ => ps_continue, ?_⟩
  intro F0 H0 F H ρ s σ st r s' e De h
  cases e
  exact h F H σ (Same.refl F) st
def sDrop (m : EM S) : SM S := fun ρ s => bnd (m ρ s) fun _ s1 => some (.nx ρ, s1)
theorem ws_expr {e : Expr} {m : EM S} {pos : Pos} (h : WE f own e m) (hs : ∀ i, swapsWith e none pos.line (f.X i).env = pure false := by intro _; rfl) : WS f own (.Expr e pos) (sDrop m) own oB oC := by
  obtain ⟨t, pt, dt⟩ := h.ex
  refine ⟨_, fun i => ps_expr (pt i) (hs i), ?_⟩
  intro F0 H0 F H ρ s σ st r s' e De ha
  obtain ⟨d, s1, e1, e⟩ := bnd_some e
  cases e
  exact dt _ _ _ _ _ _ _ st d _ e1 _ fun F1 H1 v E1 r1 p1 => ha F1 H1 σ E1.sF (st.next E1 r1)
def sAugI (i : Nat) (g : Int → Int → Int) (m : EM S) : SM S := fun ρ s => bnd (eVar i ρ s) fun x s1 => bnd (m ρ s1) fun y s2 => match x, y with
  | .int a, .int b => some (.nx (ρ.set i (some (.int (g a b)))), s2)
  | _, _ => none
theorem ws_aug {x : Str} {e : Expr} {m : EM S} {op : Operator} {g : Int → Int → Int} {pos pos' : Pos} (i : Nat) (ho : ∀ X : Cx, PIp X op (ipI g)) (he : WE f own e m) (hi : f.N[i]? = some x := by rfl) (hx : ∀ j, Loc (f.X j).env.scope x := by intro _; first | exact Or.inl rfl | exact Or.inr rfl)
    (hf : ∀ j, (f.X j).fn x = true ∨ (f.X j).env.scope.names.lookup x = some .local := by intro _; first | exact .inl rfl | exact .inr rfl) (ni : i ∉ own := by decide) (hv : svNe f.sv i = true := by rfl) : WS f own (.AugAssign (.Name x pos') op e pos) (sAugI i g m) own oB oC := by
  obtain ⟨t, pt, dt⟩ := he.ex
  refine ⟨_, fun j => ps_aug (by rw [f.hN]; exact f.nd) (by rw [f.hN]; exact hi) (hx j) (pt j) (ho _) (hf j), ?_⟩
  intro F0 H0 F H ρ s σ st r s' e De ha
  obtain ⟨l, s1, e2, y1⟩ := bnd_some e
  obtain ⟨d, s2, e1, y2⟩ := bnd_some y1
  obtain ⟨e4, e6⟩ := eVar_some e2
  rw [e6] at e1
  clear e y1 e2
  have e := y2
  clear y2
  split at e
  · cases e
    obtain ⟨v, g1, g2⟩ := st.dat i _ e4 ni
    refine ⟨v, g1, ?_⟩
    refine dt _ _ _ _ _ _ _ st _ _ e1 _ fun F1 H1 u E1 r1 p1 => ?_
    cases g2
    cases p1
    refine ⟨_, _, rfl, rfl, ha F1 H1 _ E1.sF ?_⟩
    exact (st.next E1 r1).set (.int _) (svNe_ok hv) (fun k hk => ⟨hk, fun z => ni (by rw [← z]; exact hk)⟩) (fun k hk _ => hk)
  · cases e
/-- an owned list is read in a test -/
theorem wt_thaw {e : Expr} {m : TM S} (i : Nat) (h : WT f (own.filter (· != i)) e m) : WT f own e m := by
  obtain ⟨t, pt, dt⟩ := h.ex
  refine ⟨t, pt, ?_⟩
  intro F0 H0 F H ρ s σ st b s' e Q q
  obtain ⟨F2, st2, q2⟩ := st.fzS i
  exact dt _ _ _ _ _ _ _ st2 b s' e Q fun F1 H1 E1 r1 => q F H1 ⟨Same.refl F, E1.sH, E1.dom, (q2.trans E1.sF).trans E1.sub, fun _ e n => absurd e n⟩ r1
def isSc : D → Bool
  | .list _ => false
  | .tuple _ => false
  | .dict _ => false
  | _ => true
theorem rp_sc {K : Frag} {F F' : Hp} {v : V} {d : D} (h : Rp K F v d) (s : isSc d = true) : Rp K F' v d := by
  cases h with
  | non => exact .non
  | bl b => exact .bl b
  | int i => exact .int i
  | str x => exact .str x
  | lst _ _ => cases s
  | tup _ _ => cases s
def eSc (m : EM S) : EM S := fun ρ s => bnd (m ρ s) fun d s1 => if isSc d = true then some (d, s1) else none
theorem we_thaw {e : Expr} {m : EM S} (i : Nat) (h : WE f (own.filter (· != i)) e m) : WE f own e (eSc m) := by
  obtain ⟨t, pt, dt⟩ := h.ex
  refine ⟨t, pt, ?_⟩
  intro F0 H0 F H ρ s σ st b s' e Q q
  obtain ⟨d, s1, e1, e⟩ := bnd_some e
  split at e
  · rename_i hs
    cases e
    obtain ⟨F2, st2, q2⟩ := st.fzS i
    exact dt _ _ _ _ _ _ _ st2 _ _ e1 Q fun F1 H1 v E1 r1 p1 => q F H1 v ⟨Same.refl F, E1.sH, E1.dom, (q2.trans E1.sF).trans E1.sub, fun _ e n => absurd e n⟩ r1 (rp_sc p1 hs)
  · cases e

/-! ### loops -/
def forGo (tg : GM) (body : SM S) : List D → SM S
  | [], ρ, s => some (.nx ρ, s)
  | d :: ds, ρ, s => (tg d ρ).bind fun ρ1 => bnd (body ρ1 s) fun r s1 => match r with
    | .nx ρ2 => forGo tg body ds ρ2 s1
    | .ct ρ2 => forGo tg body ds ρ2 s1
    | .bk ρ2 => some (.nx ρ2, s1)
    | .rt d => some (.rt d, s1)
def sFor (src : LM S) (tg : GM) (body : SM S) : SM S := fun ρ s => bnd (src ρ s) fun ds s1 => forGo tg body ds ρ s1
theorem ws_for {ix : List Nat} {tg iter : Expr} {body : List Stmt} {ms : LM S} {mg : GM} {mb : SM S} {pos : Pos} (hi : WI f own tg iter ms) (hg : WG f own ix tg mg) (hb : WSs f own body mb own own own) (hs : ∀ i, ∀ x, foldedSetIterable iter (f.X i).env x = pure x := by intro _ _; rfl) (hp : ∀ i, PassesOwn (model (f.X i).prog (f.X i).w) (f.X i).A (f.X i).env (f.X i).xe := by intro _; exact PassesOwn.never) :
    WS f own (.For tg iter body [] pos) (sFor ms mg mb) own oB oC := by
  obtain ⟨wi, pi, di⟩ := hi.ex
  obtain ⟨g, pg, dg⟩ := hg.ex
  obtain ⟨tb, pb, db⟩ := hb.ex
  refine ⟨_, fun i => ps_for (hp i) (f.calm i) (pi i) (pg i) (pb i) (hs := hs i), ?_⟩
  intro F0 H0 F H ρ s σ st r s' e De ha
  obtain ⟨ds, s1, e1, e⟩ := bnd_some e
  refine di _ _ _ _ _ _ _ st ds s1 e1 _ fun F1 H1 J E1 r1 src => ?_
  refine ⟨fun i m σ H' => m = ds.length - i ∧ i ≤ ds.length ∧ ∃ F' ρ' u', Same F1 F' ∧ Stt f.K f.A f.sv own F0 H0 F' H' ρ' u' σ ∧ forGo mg mb (ds.drop i) ρ' u' = some (r, s'), ⟨_, rfl, Nat.zero_le _, F1, ρ, s1, Same.refl _, st.next E1 r1, e⟩, ?_⟩
  rintro i m σ1 H2 ⟨rfl, hi, F2, ρ2, u2, sm2, st2, e2⟩
  obtain ⟨go, stop⟩ := src F2 H2 sm2 st2.sub i
  by_cases hlt : i < ds.length
  · obtain ⟨g1, g2⟩ := go _ (List.getElem?_eq_getElem hlt)
    rw [List.drop_eq_getElem_cons hlt] at e2
    unfold forGo at e2
    obtain ⟨ρ3, k1, e2⟩ := bind_some e2
    obtain ⟨rb, s3, k2, e2⟩ := bnd_some e2
    refine .inr ⟨g1, fun σ' H' => i + 1 ≤ ds.length ∧ ∃ F' ρ' u', Same F1 F' ∧ Stt f.K f.A f.sv own F0 H0 F' H' ρ' u' σ' ∧ forGo mg mb (ds.drop (i + 1)) ρ' u' = some (r, s'), fun σ' H' w => ⟨_, by omega, rfl, w⟩, fun x H3 y => ?_⟩
    obtain ⟨F3, E3, p3⟩ := g2 x H3 y
    have st3 := st2.next E3.weak (f.A.ext st2.rel E3)
    refine dg _ _ _ _ _ _ _ st3 x _ p3 ρ3 k1 _ fun σ4 st4 ag => ?_
    have sm3 := sm2.trans E3.sF
    refine db _ _ _ _ _ _ _ st4 rb s3 k2 _ ?_
    cases rb with
    | nx ρ5 => exact fun F5 H5 σ5 q5 st5 => ⟨hlt, F5, ρ5, s3, sm3.trans q5, st5, e2⟩
    | ct ρ5 => exact fun F5 H5 σ5 q5 st5 => ⟨hlt, F5, ρ5, s3, sm3.trans q5, st5, e2⟩
    | bk ρ5 =>
      cases e2
      exact fun F5 H5 σ5 q5 st5 => ha F5 H5 σ5 ((E1.sF.trans sm3).trans q5) st5
    | rt d =>
      cases e2
      exact ha
  · have hi' : i = ds.length := by omega
    refine .inl ⟨stop hi', ?_⟩
    subst hi'
    rw [List.drop_length] at e2
    cases e2
    exact ha F2 H2 σ1 (E1.sF.trans sm2) st2
def whGo (t : TM S) (body : SM S) : Nat → SM S
  | 0, _, _ => none
  | n + 1, ρ, s => bnd (t ρ s) fun k s1 => if k = true then bnd (body ρ s1) fun r s2 => (match r with
    | .nx ρ2 => whGo t body n ρ2 s2
    | .ct ρ2 => whGo t body n ρ2 s2
    | .bk ρ2 => some (.nx ρ2, s2)
    | .rt d => some (.rt d, s2)) else some (.nx ρ, s1)
theorem ws_while {c : Expr} {body : List Stmt} {mc : TM S} {mb : SM S} {pos : Pos} (n : Nat) (hc : WT f own c mc) (hb : WSs f own body mb own own own) (hp : ∀ i, PassesOwn (model (f.X i).prog (f.X i).w) (f.X i).A (f.X i).env (f.X i).xe := by intro _; exact PassesOwn.never) :
    WS f own (.While c body [] pos) (whGo mc mb n) own oB oC := by
  obtain ⟨tc, pc, dc⟩ := hc.ex
  obtain ⟨tb, pb, db⟩ := hb.ex
  refine ⟨_, fun i => ps_while (hp i) (pc i) (pb i), ?_⟩
  intro F0 H0 F H ρ s σ st r s' e De ha
  refine ⟨fun m σ H' => ∃ F' ρ' u', Same F F' ∧ Stt f.K f.A f.sv own F0 H0 F' H' ρ' u' σ ∧ whGo mc mb m ρ' u' = some (r, s'), ⟨n, F, ρ, s, Same.refl F, st, e⟩, ?_⟩
  rintro m σ1 H2 ⟨F2, ρ2, u2, sm2, st2, e2⟩
  cases m with
  | zero => cases e2
  | succ m =>
    unfold whGo at e2
    obtain ⟨k, s3, k1, e2⟩ := bnd_some e2
    refine dc _ _ _ _ _ _ _ st2 k s3 k1 _ fun F3 H3 E3 r3 => ?_
    have st3 := st2.next E3 r3
    have sm3 := sm2.trans E3.sF
    cases k with
    | false =>
      cases e2
      exact iteF (ha F3 H3 σ1 sm3 st3)
    | true =>
      rw [if_pos rfl] at e2
      obtain ⟨rb, s4, k2, e2⟩ := bnd_some e2
      refine iteT ⟨fun σ' H' => ∃ F' ρ' u', Same F F' ∧ Stt f.K f.A f.sv own F0 H0 F' H' ρ' u' σ' ∧ whGo mc mb m ρ' u' = some (r, s'), fun σ' H' w => ⟨m, Nat.lt_succ_self m, w⟩, ?_⟩
      refine db _ _ _ _ _ _ _ st3 rb s4 k2 _ ?_
      cases rb with
      | nx ρ5 => exact fun F5 H5 σ5 q5 st5 => ⟨F5, ρ5, s4, sm3.trans q5, st5, e2⟩
      | ct ρ5 => exact fun F5 H5 σ5 q5 st5 => ⟨F5, ρ5, s4, sm3.trans q5, st5, e2⟩
      | bk ρ5 =>
        cases e2
        exact fun F5 H5 σ5 q5 st5 => ha F5 H5 σ5 (sm3.trans q5) st5
      | rt d =>
        cases e2
        exact ha
end

/-! ### defs -/
def fnM {S : Type} (n : Nat) (body : SM S) (as : Slots) (s : S) : Option (D × S) := bnd (body (as ++ List.replicate (n - as.length) none) s) fun r s1 => match r with
  | .rt d => some (d, s1)
  | .nx _ => some (.none, s1)
  | _ => none
abbrev Mir (S : Type) := Slots → S → Option (D × S)
/-- a pure def -/
def spP [Tabs] (K : Frag) (n : Nat) (M : Mir Unit) : Sp := fun vs H Q _ => ∃ F ds d, vs.length = n ∧ Same F H ∧ amb0.rel () H ∧ (∀ b ∈ amb0.ex, F b = none) ∧ RpAll K F vs ds ∧ M (ds.map some) () = some (d, ()) ∧
  ∀ F' H' v, Ext amb0.ex F H F' H' → amb0.rel () H' → Rp K F' v d → Q v H'
/-- a def whose first argument is the ambient state -/
def spS [Tabs] (K : Frag) (n : Nat) (M : Mir DS) : Sp := fun vs H Q _ => ∃ sa ca F ds s d s' ws, vs = .ref sa :: ws ∧ vs.length = n ∧ Same F H ∧ (ambS sa ca).rel s H ∧ (∀ b ∈ (ambS sa ca).ex, F b = none) ∧ RpAll K F ws ds ∧ M (none :: ds.map some) s = some (d, s') ∧
  ∀ F' H' v, Ext (ambS sa ca).ex F H F' H' → (ambS sa ca).rel s' H' → Rp K F' v d → Q v H'
/-- a def by its body, its code told -/
theorem fun_okC {P : Program} {w : World} {K : Frag} {mg : Str → Option Value} {base : Heap} {x qual : Str} {st : Stmt} {f : Addr} {fd : FuncData} {N ps : List Str} {k : Nat} {sp : Sp} (F : Fun K x qual st f fd) (S : FnScope N ps (defScope st)) (len : ∀ vs H Q E, sp vs H Q E → vs.length = ps.length)
    (hbody : ∀ (cdv : Value) (A : Around) (outer : List Env) (s : Shared) (H : Hp) (vs : List V) (Q : VK) (E : XK), fd.code = cdv → Room k (A.deeper (envOfC qual (defScope st) s.heap.objs.size f cdv)) → sp vs H Q E →
      ∃ t, PSs (cxOf CX0 P w K mg base N qual (defScope st) f cdv A outer s H E).nox (defBody st) t ∧ t { nx := fun _ H' => Q .non H', rt := Q } (L2.start N vs) H) : FnOk P w K mg base CX0 (k + 1) f fd ps sp := by
  obtain ⟨oc, od, kV, doc, pm, an, cdv, ct, osl, rfl, lk, hcd⟩ := F.ex
  refine fn_of lk hcd S len fun A outer s H vs Q E hr hsp => ?_
  obtain ⟨t, h, q⟩ := hbody cdv A outer s H vs Q E rfl hr hsp
  exact ⟨t, h.nox, q⟩
section
variable [Tabs] {P : Program} {w : World} {K : Frag} {mg : Str → Option Value} {base : Heap}
def famOf {S : Type} (P : Program) (w : World) (K : Frag) (mg : Str → Option Value) (base : Heap) (N : List Str) (x : Str) (st : Stmt) (f : Addr) (cdv : Value) (A : Around) (outer : List Env) (s : Shared) (H : Hp) (E : XK) (k : Nat) (nd : N.Nodup)
    (hr : Room k (A.deeper (envOfC x (defScope st) s.heap.objs.size f cdv))) (am : Amb S) (sv : Option Nat) : Fam S where
  ι := Unit
  X := fun _ => (cxOf CX0 P w K mg base N x (defScope st) f cdv A outer s H E).nox
  K := K
  N := N
  k := k
  A := am
  sv := sv
  hK := fun _ => rfl
  hN := fun _ => rfl
  nd := nd
  room := fun _ => hr
  calm := fun _ => rfl
theorem start_get {N : List Str} {vs : List V} {i : Nat} {v : V} (h : vs[i]? = some v) : (L2.start N vs)[i]? = some (some v) := by
  unfold L2.start
  have hi := (List.getElem?_eq_some_iff.mp h).1
  rw [List.getElem?_append_left (by simpa using hi), List.getElem?_map, h]
  rfl
theorem fn_pure {x : Str} {st : Stmt} {f : Addr} {fd : FuncData} {N ps : List Str} {k n : Nat} {body : SM Unit} {own' : List Nat} (F : Fun K x x st f fd) (S : FnScope N ps (defScope st)) (hn : ps.length = n)
    (hb : ∀ cdv A outer s H E hr, fd.code = cdv → WSs (famOf P w K mg base N x st f cdv A outer s H E k S.nd hr amb0 none) [] (defBody st) body own' [] []) : FnOk P w K mg base CX0 (k + 1) f fd ps (spP K n (fnM N.length body)) := by
  refine fun_okC F S (fun vs H Q E h => ?_) (fun cdv A outer s H vs Q E hcd hr h => ?_)
  · obtain ⟨_, _, _, h1, _⟩ := h
    rw [h1, hn]
  · obtain ⟨F1, ds, d, h1, sm, rl, exF, rp, hm, q⟩ := h
    obtain ⟨t, pt, dt⟩ := (hb cdv A outer s H E hr hcd).ex
    refine ⟨t, pt (), ?_⟩
    obtain ⟨r, s1, e1, e⟩ := bnd_some hm
    have hl : vs.length = ds.length := RpAll.length rp
    have st0 : Stt K amb0 none [] F1 H F1 H (ds.map some ++ List.replicate (N.length - (ds.map some).length) none) () (L2.start N vs) := by
      refine ⟨Ext.refl sm, rl, exF, ?_, fun j e => by simp at e, fun i c hc _ => ?_, fun i hi => by simp at hi, fun i hi => by simp at hi⟩
      · unfold L2.start
        rw [List.length_append, List.length_append, List.length_map, List.length_map, List.length_replicate, List.length_replicate, hl]
      · have hi : i < ds.length := by
          by_cases z : i < ds.length
          · exact z
          · rw [List.getElem?_append_right (by simpa using z), List.getElem?_replicate] at hc
            split at hc <;> cases hc
        rw [List.getElem?_append_left (by simpa using hi), List.getElem?_map] at hc
        cases e : ds[i]? with
        | none => rw [e] at hc; cases hc
        | some c' =>
          rw [e] at hc
          cases hc
          obtain ⟨v, g1, g2⟩ := RpAll.get rp e
          exact ⟨v, start_get g1, g2⟩
    refine dt _ _ _ _ _ _ _ st0 r s1 e1 _ ?_
    cases r with
    | nx ρ1 => cases e; exact fun F' H' σ' sm' st' => q F' H' .non st'.ext st'.rel .non
    | rt d1 => cases e; exact fun F' H' v E' rl' r' => q F' H' v E' rl' r'
    | bk ρ1 => cases e
    | ct ρ1 => cases e
theorem fn_state {x : Str} {st : Stmt} {f : Addr} {fd : FuncData} {N ps : List Str} {k n : Nat} {body : SM DS} {own' : List Nat} (F : Fun K x x st f fd) (S : FnScope N ps (defScope st)) (hn : ps.length = n)
    (hb : ∀ sa ca cdv A outer s H E hr, fd.code = cdv → WSs (famOf P w K mg base N x st f cdv A outer s H E k S.nd hr (ambS sa ca) (some 0)) [] (defBody st) body own' [] []) : FnOk P w K mg base CX0 (k + 1) f fd ps (spS K n (fnM N.length body)) := by
  refine fun_okC F S (fun vs H Q E h => ?_) (fun cdv A outer s H vs Q E hcd hr h => ?_)
  · obtain ⟨_, _, _, _, _, _, _, _, _, h1, _⟩ := h
    rw [h1, hn]
  · obtain ⟨sa, ca, F1, ds, s0, d, s', ws, rfl, h1, sm, rl, exF, rp, hm, q⟩ := h
    obtain ⟨t, pt, dt⟩ := (hb sa ca cdv A outer s H E hr hcd).ex
    refine ⟨t, pt (), ?_⟩
    obtain ⟨r, s1, e1, e⟩ := bnd_some hm
    have hl : ws.length = ds.length := RpAll.length rp
    have st0 : Stt K (ambS sa ca) (some 0) [] F1 H F1 H (none :: ds.map some ++ List.replicate (N.length - (none :: ds.map some).length) none) s0 (L2.start N (.ref sa :: ws)) := by
      refine ⟨Ext.refl sm, rl, exF, ?_, fun j e => ?_, fun i c hc _ => ?_, fun i hi => by simp at hi, fun i hi => by simp at hi⟩
      · unfold L2.start
        simp only [List.length_append, List.length_map, List.length_cons, List.length_replicate, hl]
      · cases e
        exact start_get rfl
      · cases i with
        | zero => cases hc
        | succ i =>
          have hc : (ds.map some ++ List.replicate (N.length - (none :: ds.map some).length) none)[i]? = some (some c) := hc
          have hi : i < ds.length := by
            by_cases z : i < ds.length
            · exact z
            · rw [List.getElem?_append_right (by simpa using z), List.getElem?_replicate] at hc
              split at hc <;> cases hc
          rw [List.getElem?_append_left (by simpa using hi), List.getElem?_map] at hc
          cases e : ds[i]? with
          | none => rw [e] at hc; cases hc
          | some c' =>
            rw [e] at hc
            cases hc
            obtain ⟨v, g1, g2⟩ := RpAll.get rp e
            exact ⟨v, start_get (by simpa using g1), g2⟩
    refine dt _ _ _ _ _ _ _ st0 r s1 e1 _ ?_
    cases r with
    | nx ρ1 => cases e; exact fun F' H' σ' sm' st' => q F' H' .non st'.ext st'.rel .non
    | rt d1 => cases e; exact fun F' H' v E' rl' r' => q F' H' v E' rl' r'
    | bk ρ1 => cases e
    | ct ρ1 => cases e
end
section
variable {S : Type} {f : Fam S} {own : List Nat}
def eCallP (M : Mir Unit) (m : LM S) : EM S := fun ρ s => bnd (m ρ s) fun ds s1 => bnd (M (ds.map some) ()) fun d _ => some (d, s1)
end
section
variable {f : Fam DS} {own : List Nat}
/-- a def that is handed the ambient state, first -/
def eCallS (M : Mir DS) (m : LM DS) : EM DS := fun ρ s => bnd (m ρ s) fun ds s1 => M (none :: ds.map some) s1
end
end G

/-! The data layer, 5: calls by name, the law's own state. -/
namespace G
open PySem PySem.Spec PyProof.Rows L2
/-- .., its code at c -/
def HasC (K : Frag) (mg : Str → Option Value) (x : Str) (st : Stmt) (c : Addr) : Prop := ∃ f fd, Fun K x x st f fd ∧ mg x = some (.ref f) ∧ fd.code = .ref c
/-- the def st stands under its name -/
def Has (K : Frag) (mg : Str → Option Value) (x : Str) (st : Stmt) : Prop := ∃ f fd, Fun K x x st f fd ∧ mg x = some (.ref f)
/-- a def that may be called -/
structure CallX (P : Program) (w : World) (K : Frag) (mg : Str → Option Value) (base : Heap) (x : Str) (k : Nat) (ps : List Str) (sp : Sp) : Prop where
  ex : ∃ f fd, FnOk P w K mg base CX0 k f fd ps sp ∧ mg x = some (.ref f) ∧ PySem.W.keepIn K (.ref f) = true ∧ Binds K fd ps []
abbrev CallP [Tabs] (P : Program) (w : World) (K : Frag) (mg : Str → Option Value) (base : Heap) (x : Str) (k : Nat) (ps : List Str) (n : Nat) (M : Mir Unit) : Prop := CallX P w K mg base x k ps (spP K n M)
abbrev CallS [Tabs] (P : Program) (w : World) (K : Frag) (mg : Str → Option Value) (base : Heap) (x : Str) (k : Nat) (ps : List Str) (n : Nat) (M : Mir DS) : Prop := CallX P w K mg base x k ps (spS K n M)
section
variable [Tabs] {P : Program} {w : World} {K : Frag} {mg : Str → Option Value} {base : Heap}
theorem CallX.mono {x : Str} {j k : Nat} {ps : List Str} {sp : Sp} (h : CallX P w K mg base x j ps sp) (hk : j ≤ k) : CallX P w K mg base x k ps sp :=
  let ⟨f, fd, a, b, c, d⟩ := h.ex; ⟨f, fd, a.mono hk, b, c, d⟩
theorem callP_mk {x : Str} {st : Stmt} {N ps : List Str} {k n : Nat} {body : SM Unit} {own' : List Nat} (h : Has K mg x st) (S : FnScope N ps (defScope st)) (hn : ps.length = n)
    (hb : ∀ (kV doc pm : Value) (an : Option Addr) (cdv ct : Value) (us : List Value), us.length = ps.length → bindArgs (PySem.W.fnOf x x (defArgs st) (defBody st) (defScope st) .none kV doc pm an cdv ct) ⟨us, []⟩ = pure (ps.zip us))
    (hw : ∀ f cdv A outer s H E hr, WSs (famOf P w K mg base N x st f cdv A outer s H E k S.nd hr amb0 none) [] (defBody st) body own' [] []) : CallP P w K mg base x (k + 1) ps n (fnM N.length body) := by
  obtain ⟨f, fd, F, g⟩ := h
  exact ⟨f, fd, fn_pure F S hn (fun cdv A outer s H E hr _ => hw f cdv A outer s H E hr), g, F.kp, F.binds hb⟩
theorem callS_mk {x : Str} {st : Stmt} {N ps : List Str} {k n : Nat} {body : SM DS} {own' : List Nat} (h : Has K mg x st) (S : FnScope N ps (defScope st)) (hn : ps.length = n)
    (hb : ∀ (kV doc pm : Value) (an : Option Addr) (cdv ct : Value) (us : List Value), us.length = ps.length → bindArgs (PySem.W.fnOf x x (defArgs st) (defBody st) (defScope st) .none kV doc pm an cdv ct) ⟨us, []⟩ = pure (ps.zip us))
    (hw : ∀ sa ca f cdv A outer s H E hr, WSs (famOf P w K mg base N x st f cdv A outer s H E k S.nd hr (ambS sa ca) (some 0)) [] (defBody st) body own' [] []) : CallS P w K mg base x (k + 1) ps n (fnM N.length body) := by
  obtain ⟨f, fd, F, g⟩ := h
  exact ⟨f, fd, fn_state F S hn (fun sa ca cdv A outer s H E hr _ => hw sa ca f cdv A outer s H E hr), g, F.kp, F.binds hb⟩
theorem callP_mkC {x : Str} {st : Stmt} {N ps : List Str} {k n : Nat} {body : SM Unit} {own' : List Nat} {c : Addr} (h : HasC K mg x st c) (S : FnScope N ps (defScope st)) (hn : ps.length = n)
    (hb : ∀ (kV doc pm : Value) (an : Option Addr) (cdv ct : Value) (us : List Value), us.length = ps.length → bindArgs (PySem.W.fnOf x x (defArgs st) (defBody st) (defScope st) .none kV doc pm an cdv ct) ⟨us, []⟩ = pure (ps.zip us))
    (hw : ∀ f A outer s H E hr, WSs (famOf P w K mg base N x st f (.ref c) A outer s H E k S.nd hr amb0 none) [] (defBody st) body own' [] []) : CallP P w K mg base x (k + 1) ps n (fnM N.length body) := by
  obtain ⟨f, fd, F, g, hc⟩ := h
  exact ⟨f, fd, fn_pure F S hn (fun cdv A outer s H E hr e => by
    have e : cdv = .ref c := e.symm.trans hc
    subst e
    exact hw f A outer s H E hr), g, F.kp, F.binds hb⟩
theorem callS_mkC {x : Str} {st : Stmt} {N ps : List Str} {k n : Nat} {body : SM DS} {own' : List Nat} {c : Addr} (h : HasC K mg x st c) (S : FnScope N ps (defScope st)) (hn : ps.length = n)
    (hb : ∀ (kV doc pm : Value) (an : Option Addr) (cdv ct : Value) (us : List Value), us.length = ps.length → bindArgs (PySem.W.fnOf x x (defArgs st) (defBody st) (defScope st) .none kV doc pm an cdv ct) ⟨us, []⟩ = pure (ps.zip us))
    (hw : ∀ sa ca f A outer s H E hr, WSs (famOf P w K mg base N x st f (.ref c) A outer s H E k S.nd hr (ambS sa ca) (some 0)) [] (defBody st) body own' [] []) : CallS P w K mg base x (k + 1) ps n (fnM N.length body) := by
  obtain ⟨f, fd, F, g, hc⟩ := h
  exact ⟨f, fd, fn_state F S hn (fun sa ca cdv A outer s H E hr e => by
    have e : cdv = .ref c := e.symm.trans hc
    subst e
    exact hw sa ca f A outer s H E hr), g, F.kp, F.binds hb⟩
/-- a call that goes too deep: nothing is promised -/
theorem callP_zero {x : Str} {st : Stmt} {ps : List Str} {k n : Nat} (h : Has K mg x st) (hn : ps.length = n)
    (hb : ∀ (kV doc pm : Value) (an : Option Addr) (cdv ct : Value) (us : List Value), us.length = ps.length → bindArgs (PySem.W.fnOf x x (defArgs st) (defBody st) (defScope st) .none kV doc pm an cdv ct) ⟨us, []⟩ = pure (ps.zip us)) : CallP P w K mg base x k ps n (fun _ _ => none) := by
  obtain ⟨f, fd, F, g⟩ := h
  refine ⟨f, fd, ⟨fun vs H Q E h => ?_, fun A outer s H args us vs Q E hr he hbb hv hs => ?_⟩, g, F.kp, F.binds hb⟩
  · obtain ⟨_, _, _, h1, _⟩ := h
    rw [h1, hn]
  · obtain ⟨_, _, _, _, _, _, _, _, h1, _⟩ := hs
    cases h1
end
section
variable [T : Tabs] {S : Type} {f : Fam S} {own : List Nat}
theorem we_cP {x : Str} {p pos : Pos} {e : Expr} {es : List Expr} {m : LM S} {k n : Nat} {ps : List Str} {M : Mir Unit} (GF : ∀ i, CallP (f.X i).prog (f.X i).w (f.X i).K (f.X i).mg (f.X i).base x k ps n M) (ha : WA f own (e :: es) m) (hT : f.A.tb = T.l := by rfl) (hk : Nat.ble k f.k = true := by rfl) (hn : n = es.length + 1 := by rfl) (hg : ∀ i, Gl (f.X i) x := by intro _; rfl) (hdb : (x == ("__debug__" : Str)) = false := by decide)
    (he : ∀ i, starEach (e :: es) (f.X i).env = (false, eval e (f.X i).env) :: starEach es (f.X i).env := by intro _; rfl) (hpl : ∀ i, (backTo pos (starEach es (f.X i).env)).any (·.1) = false := by intro _; rfl) : WE f own (.Call (.Name x p) (e :: es) [] pos) (eCallP M m) := by
  obtain ⟨t, pt, dt⟩ := ha.ex
  refine ⟨tCall (spP f.K n M) [] E0 t, fun i => ?_, ?_⟩
  · obtain ⟨fa, fd, G1, g, kp, b⟩ := (GF i).ex
    exact f.hK i ▸ pe_call G1 ((f.room i).mono (Nat.le_of_ble_eq_true hk)) (hg i) g kp b .nil pass0 (pt i) hdb (he i) (hpl i)
  intro F0 H0 F H ρ s σ st d s' e Q q
  obtain ⟨ds, s1, e1, e⟩ := bnd_some e
  obtain ⟨d1, u, e2, e⟩ := bnd_some e
  cases e
  refine dt _ _ _ _ _ _ _ st ds _ e1 _ fun F1 H1 vs E1 r1 p1 => ?_
  have st1 := st.next E1 r1
  refine ⟨F1, ds, d, ?_, E1.sub, fun b hb => f.A.tabs _ _ r1 b (hT ▸ hb), fun b hb => st1.exF b (f.A.sub b (hT ▸ hb)), by rw [List.append_nil]; exact p1, e2, fun F2 H2 v E2 t2 p2 =>
    q F2 H2 v (E1.trans (E2.wide fun b hb => f.A.sub b (hT ▸ hb))) (f.A.mix _ _ _ r1 (fun b hb nb o e => E2.sH b o (fun z => nb (hT ▸ z)) e) fun b hb => t2 b (hT ▸ hb)) p2⟩
  rw [List.append_nil, RpAll.length p1, ha.len _ _ _ _ e1, hn, List.length_cons]
theorem we_c0 {x : Str} {p pos : Pos} {k : Nat} {M : Mir Unit} (GF : ∀ i, CallP (f.X i).prog (f.X i).w (f.X i).K (f.X i).mg (f.X i).base x k [] 0 M) (hT : f.A.tb = T.l := by rfl) (hk : Nat.ble k f.k = true := by rfl) (hg : ∀ i, Gl (f.X i) x := by intro _; rfl) (hdb : (x == ("__debug__" : Str)) = false := by decide) : WE f own (.Call (.Name x p) [] [] pos) (eCallP M lNil) := by
  refine ⟨tCall (spP f.K 0 M) [] E0 tNil, fun i => ?_, ?_⟩
  · obtain ⟨fa, fd, G1, g, kp, b⟩ := (GF i).ex
    exact f.hK i ▸ pe_call0 G1 ((f.room i).mono (Nat.le_of_ble_eq_true hk)) (hg i) g kp b .nil pass0 hdb
  intro F0 H0 F H ρ s σ st d s' e Q q
  obtain ⟨ds, s1, e1, e⟩ := bnd_some e
  obtain ⟨d1, u, e2, e⟩ := bnd_some e
  cases e
  cases e1
  exact ⟨F, [], d, rfl, st.sub, fun b hb => f.A.tabs _ _ st.rel b (hT ▸ hb), fun b hb => st.exF b (f.A.sub b (hT ▸ hb)), .nil, e2, fun F2 H2 v E2 t2 p2 =>
    q F2 H2 v (E2.wide fun b hb => f.A.sub b (hT ▸ hb)) (f.A.mix _ _ _ st.rel (fun b hb nb o e => E2.sH b o (fun z => nb (hT ▸ z)) e) fun b hb => t2 b (hT ▸ hb)) p2⟩
end
section
variable [Tabs] {f : Fam DS} {own : List Nat}
theorem we_cS {x y : Str} {p pos py : Pos} {es : List Expr} {m : LM DS} {k n : Nat} {sa ca : Addr} {ps : List Str} {M : Mir DS} (i : Nat) (GF : ∀ i, CallS (f.X i).prog (f.X i).w (f.X i).K (f.X i).mg (f.X i).base x k ps n M) (ha : WA f own es m) (hA : f.A = ambS sa ca := by rfl) (hsv : f.sv = some i := by rfl) (hk : Nat.ble k f.k = true := by rfl) (hn : n = es.length + 1 := by rfl) (hN : f.N[i]? = some y := by rfl)
    (hv : ∀ j, Vis (f.X j).env.scope y := by intro _; first | exact Or.inl rfl | exact Or.inr (Or.inl rfl) | exact Or.inr (Or.inr rfl)) (hd : (y == ("__debug__" : Str)) = false := by decide) (hcd : (y == ("__classdict__" : Str)) = false := by decide)
    (hg : ∀ i, Gl (f.X i) x := by intro _; rfl) (hdb : (x == ("__debug__" : Str)) = false := by decide)
    (he : ∀ i, starEach (.Name y py :: es) (f.X i).env = (false, eval (.Name y py) (f.X i).env) :: starEach es (f.X i).env := by intro _; rfl) (hpl : ∀ i, (backTo pos (starEach es (f.X i).env)).any (·.1) = false := by intro _; rfl) :
    WE f own (.Call (.Name x p) (.Name y py :: es) [] pos) (eCallS M m) := by
  obtain ⟨t, pt, dt⟩ := ha.ex
  refine ⟨tCall (spS f.K n M) [] E0 (tCons (tVar i) t), fun j => ?_, ?_⟩
  · obtain ⟨fa, fd, G1, g, kp, b⟩ := (GF j).ex
    exact f.hK j ▸ pe_call G1 ((f.room j).mono (Nat.le_of_ble_eq_true hk)) (hg j) g kp b .nil pass0 (pa_cons (pe_var (by rw [f.hN]; exact hN) (hv j) hd hcd) (pt j) (he j)) hdb (he j) (hpl j)
  intro F0 H0 F H ρ s σ st d s' e Q q
  obtain ⟨ds, s1, e1, e2⟩ := bnd_some e
  refine ⟨f.A.root, st.root i hsv, ?_⟩
  refine dt _ _ _ _ _ _ _ st ds _ e1 _ fun F1 H1 vs E1 r1 p1 => ?_
  have st1 := st.next E1 r1
  have hroot : f.A.root = .ref sa := by rw [hA]; rfl
  refine ⟨sa, ca, F1, ds, s1, d, s', vs, ?_, ?_, E1.sub, by rw [← hA]; exact r1, by rw [← hA]; exact st1.exF, p1, e2, fun F2 H2 v E2 r2 p2 => ?_⟩
  · rw [List.append_nil, hroot]
  · rw [List.append_nil, List.length_cons, RpAll.length p1, ha.len _ _ _ _ e1, hn]
  · rw [← hA] at E2 r2
    exact q F2 H2 v (E1.trans E2) r2 p2
end
/-! ### the law's state -/
def seedOf (ns : List Int) : Int := ns.foldl (fun z c => (z * 31 + c) % 1000003) 7
def stateOf (ns : List Int) : DS := ⟨ns.map fun c => if c < 0 then -c else c, seedOf ns + 1⟩
def spState (K : Frag) : Sp := fun vs H Q _ => ∃ (a : Addr) (ns : List Int), vs = [.ref a] ∧ SqL K H a (ns.map V.int) ∧ ns.length ≤ 63 ∧ ∀ H' sa ca, Same H H' → H sa = none → H ca = none → relS sa ca (stateOf ns) H' → Q (.ref sa) H'
def spLaw [Tabs] (K : Frag) : Sp := fun vs H Q _ => ∃ (a : Addr) (ns : List Int), vs = [.ref a] ∧ SqL K H a (ns.map V.int) ∧ ns.length ≤ 63 ∧ TabsOk H ∧ ∀ H', Q (.bl true) H'
/-- a draw -/
def dropZ : List Int → List Int
  | [] => []
  | c :: r => if c = 0 then dropZ r else c :: r
def drawI (s : DS) (n : Int) : Int × DS :=
  match dropZ s.cells with
  | c :: r => (c % n, ⟨(c / n) :: r, s.seed⟩)
  | [] => let x := (s.seed * 48271 + 12345) % 2147483647; ((x / 64) % n, ⟨[], x⟩)
def m_draw : Mir DS := fun as s => match as with
  | [none, some (.int n)] => if 0 < n ∧ n.natAbs.log2 < 9000 then some (.int (drawI s n).1, (drawI s n).2) else none
  | _ => none
section
variable [Tabs] {P : Program} {w : World} {K : Frag} {mg : Str → Option Value} {base : Heap}
theorem pss_any {X : Cx} {rest : List Stmt} : PSs X rest (fun D σ H => ∃ t, PSs X rest t ∧ t D σ H) := ⟨fun pins s σ H D I ⟨t, p, h⟩ => p.run pins s σ H D I h⟩
theorem fn_law {st : Stmt} {N : List Str} {k j : Nat} {body : SM DS} {own' : List Nat} {p1 p2 p3 p4 p5 : Pos} {rest : List Stmt} {f : Addr} {fd : FuncData} (F : Fun K "law" "law" st f fd) (S : FnScope N ["script"] (defScope st)) (hs : CallX P w K mg base "_law_state" k ["script"] (spState K))
    (hbody : defBody st = .Assign [.Name "state" p1] (.Call (.Name "_law_state" p2) [.Name "script" p3] [] p4) p5 :: rest) (hj : N[j]? = some ("state" : Str)) (hN0 : N[0]? = some ("script" : Str))
    (hw : ∀ sa ca cdv A outer s H E hr, fd.code = cdv → WSs (famOf P w K mg base N "law" st f cdv A outer s H E k S.nd hr (ambS sa ca) (some j)) [] rest body own' [] [])
    (hl1 : Loc (defScope st) "state") (hl2 : Vis (defScope st) "script") (hg : (defScope st).names.lookup ("_law_state" : Str) = some NameKind.globalImplicit)
    (hsw : ∀ env : Env, swapsWith (.Call (.Name "_law_state" p2) [.Name "script" p3] [] p4) (some (.Name "state" p1)) p5.line env = pure false)
    (hm : ∀ ns : List Int, ns.length ≤ 63 → ∃ s', body (List.replicate N.length none) (stateOf ns) = some (.rt (.bool true), s')) :
    FnOk P w K mg base CX0 (k + 1) f fd ["script"] (spLaw K) := by
  refine fun_okC F S (fun vs H Q E h => ?_) (fun cdv A outer s H vs Q E hcd hr h => ?_)
  · obtain ⟨a, ns, rfl, _⟩ := h
    rfl
  · obtain ⟨a, ns, rfl, hS, hlen, hTb, q⟩ := h
    obtain ⟨fs, fds, Gs, gs, kps, bs⟩ := hs.ex
    have hgl : Gl (cxOf CX0 P w K mg base N "law" (defScope st) f cdv A outer s H E).nox "_law_state" := hg
    rw [hbody]
    refine ⟨_, pss_cons (ps_set (X := (cxOf CX0 P w K mg base N "law" (defScope st) f cdv A outer s H E).nox) (i := j) S.nd hj hl1 (pe_call Gs hr hgl gs kps bs .nil pass0 (pa_cons (pe_var (i := 0) hN0 hl2) pa_nil)) (hsw _) (.inl rfl)) pss_any, ?_⟩
    refine ⟨.ref a, start_get rfl, a, ns, rfl, hS, hlen, fun H' sa ca sm n1 n2 rl => ?_⟩
    obtain ⟨t, pt, dt⟩ := (hw sa ca cdv A outer s H E hr hcd).ex
    refine ⟨t, pt (), ?_⟩
    obtain ⟨s', e⟩ := hm ns hlen
    have hl : (L2.start N [V.ref a]).length = N.length := by
      have : 1 ≤ N.length := by
        have := (List.getElem?_eq_some_iff.mp hN0).1
        omega
      unfold L2.start
      simp only [List.length_append, List.length_map, List.length_replicate, List.length_cons, List.length_nil]
      omega
    have hjl : j < N.length := (List.getElem?_eq_some_iff.mp hj).1
    refine dt (fun _ => none) H' (fun _ => none) H' _ _ _ ⟨Ext.refl (fun _ _ e => by cases e), ⟨rl, fun b hb => let ⟨ps, e, t⟩ := hTb b hb; ⟨ps, sm _ _ e, t⟩⟩, fun _ _ => rfl, ?_, fun i e => ?_, fun i c hc _ => ?_, fun i hi => by simp at hi, fun i hi => by simp at hi⟩ _ s' e _ ?_
    · rw [List.length_set, hl, List.length_replicate]
    · cases e
      rw [List.getElem?_set_self (by rw [hl]; exact hjl)]
      rfl
    · rw [List.getElem?_replicate] at hc
      split at hc <;> cases hc
    · intro F' H'' v _ _ r
      cases r
      exact q H''
end
end G

/-! The data layer, 6: more rules. -/
namespace G
open PySem PySem.Spec PyProof.Rows L2
section
variable {S : Type} {f : Fam S} {own : List Nat}
/-! lists made by + and * -/
def dCat : D → D → Option D
  | .list xs, .list ys => if xs.length + ys.length ≤ sizeLine then some (.list (xs ++ ys)) else none
  | _, _ => none
def dRep : D → D → Option D
  | .list xs, .int k => if -(2 ^ 63) ≤ k ∧ k < 2 ^ 63 ∧ xs.length * k.toNat ≤ sizeLine then some (.list (List.replicate k.toNat xs).flatten) else none
  | _, _ => none
def OpO (K : Frag) (r : R2) (g : D → D → Option D) : Prop := ∀ F H x y dx dy d, Same F H → Rp K F x dx → Rp K F y dy → g dx dy = some d → ∀ Q : VK,
  (∀ H' o vs ds, Ext [] F H F H' → d = .list ds → H o = none → H' o = some (.lst vs) → RpAll K F vs ds → Q (.ref o) H') → r x y H Q
theorem do_op {r : R2} {g : D → D → Option D} {ta tb : TE} {a b : EM S} (h : OpO f.K r g) (ha : DE f own ta a) (hb : DE f own tb b) : DO f own (tOp r ta tb) (eOp2 g a b) := by
  intro F0 H0 F H ρ s σ st d s' e Q q
  obtain ⟨x, s1, e1, e⟩ := bnd_some e
  obtain ⟨y, s2, e2, e⟩ := bnd_some e
  obtain ⟨z, e3, e⟩ := bind_some e
  cases e
  refine ha _ _ _ _ _ _ _ st x s1 e1 _ fun F1 H1 v E1 r1 p1 => ?_
  refine hb _ _ _ _ _ _ _ (st.next E1 r1) y _ e2 _ fun F2 H2 u E2 r2 p2 => ?_
  refine h F2 H2 v u x y d E2.sub (Rp.mo p1 E2.sF) p2 e3 _ fun H3 o vs ds E3 ed n1 h1 p3 => ?_
  have E := E1.trans E2
  exact q F2 H3 o vs ds (E.trans E3.weak) (f.A.ext r2 E3) ed (free_of E2.sub n1) (none_back E n1) h1 p3
theorem opo_cat {K : Frag} : OpO K rCat dCat := by
  intro F H x y dx dy d sm rx ry e Q q
  unfold dCat at e
  split at e
  · split at e
    · rename_i h
      cases e
      cases rx with
      | lst h1 p1 =>
        cases ry with
        | lst h2 p2 =>
          have l1 := RpAll.length p1
          have l2 := RpAll.length p2
          refine ⟨_, _, _, _, rfl, rfl, sm _ _ h1, sm _ _ h2, by omega, fun p np => ?_⟩
          exact q _ p _ _ (Ext.newO sm np) rfl np upd_same (RpAll.append p1 p2)
    · cases e
  · cases e
theorem opo_rep {K : Frag} : OpO K rRep dRep := by
  intro F H x y dx dy d sm rx ry e Q q
  unfold dRep at e
  split at e
  · split at e
    · rename_i h
      cases e
      cases rx with
      | lst h1 p1 =>
        cases ry
        have l1 := RpAll.length p1
        refine ⟨_, _, _, rfl, rfl, sm _ _ h1, h.1, h.2.1, by rw [l1]; exact h.2.2, fun p np => ?_⟩
        exact q _ p _ _ (Ext.newO sm np) rfl np upd_same (RpAll.replicate p1 _)
    · cases e
  · cases e
theorem wo_cat {a b : Expr} {ma mb : EM S} {pos : Pos} (ha : WE f own a ma) (hb : WE f own b mb) : WO f own (.BinOp a .Add b pos) (eOp2 dCat ma mb) := by
  obtain ⟨ta, pa, da⟩ := ha.ex
  obtain ⟨tb, pb, db⟩ := hb.ex
  exact ⟨_, fun i => pe_op op_cat (pa i) (pb i), do_op opo_cat da db⟩
theorem wo_rep {a b : Expr} {ma mb : EM S} {pos : Pos} (ha : WE f own a ma) (hb : WE f own b mb) : WO f own (.BinOp a .Mult b pos) (eOp2 dRep ma mb) := by
  obtain ⟨ta, pa, da⟩ := ha.ex
  obtain ⟨tb, pb, db⟩ := hb.ex
  exact ⟨_, fun i => pe_op op_rep (pa i) (pb i), do_op opo_rep da db⟩
/-! in, not in: any data in a list; flat things in a tuple -/
def isFlat : D → Bool
  | .none => true
  | .bool _ => true
  | .int _ => true
  | .str _ => true
  | _ => false
def eqF : D → D → Bool
  | .none, .none => true
  | .bool a, .bool b => a == b
  | .bool a, .int b => (if a then 1 else 0) == b
  | .int a, .bool b => a == (if b then 1 else 0)
  | .int a, .int b => a == b
  | .str a, .str b => a == b
  | _, _ => false
def inD (x : D) (xs : List D) : Option Bool := if isFlat x = true ∧ xs.all isFlat = true then some (xs.any fun y => eqF y x) else
  if x.plain = true ∧ PyData.plainAll xs = true ∧ x.depth ≤ 60 then some (xs.any fun y => PyData.eqv y x) else none
def dIn : D → D → Option D
  | x, .list ys => (inD x ys).bind fun b => some (.bool b)
  | x, .tuple ys => (inD x ys).bind fun b => some (.bool b)
  | _, _ => none
def dNin : D → D → Option D
  | x, .list ys => (inD x ys).bind fun b => some (.bool (!b))
  | x, .tuple ys => (inD x ys).bind fun b => some (.bool (!b))
  | _, _ => none
/-- in, of data without dicts -/
def rInD (K : Frag) (neg : Bool) : R2 := fun x y H Q => ∃ d xs, Dp K H x d ∧ (Dp K H y (.list xs) ∨ Dp K H y (.tuple xs)) ∧ (d.plain = true ∧ PyData.plainAll xs = true ∧ d.depth ≤ 60) ∧
  Q (.bl (if neg = true then !(xs.any fun z => PyData.eqv z d) else xs.any fun z => PyData.eqv z d)) H
section
variable {X : Cx}
theorem op_inD (hu : X.A.units + 64 < cLine) : OpR X (compareOp .In) (rInD X.K false) := by
  intro pins s σ H x y v u Q I rx ry h
  obtain ⟨d, xs, hd, hy, ⟨p1, p2, p3⟩, q⟩ := h
  obtain ⟨as, r1⟩ := Dp.reads I d x v hd rx
  rw [if_neg Bool.false_ne_true] at q
  rcases hy with hy | hy
  · obtain ⟨bs, r2⟩ := Dp.reads I _ y u hy ry
    exact SeqAt.in_list_data r2 r1 p2 p1 (by omega) ⟨.bl _, H, I, rfl, q⟩
  · obtain ⟨bs, r2⟩ := Dp.reads I _ y u hy ry
    exact SeqAt.in_tuple_data r2 r1 p2 p1 (by omega) ⟨.bl _, H, I, rfl, q⟩
theorem op_notInD (hu : X.A.units + 64 < cLine) : OpR X (compareOp .NotIn) (rInD X.K true) := by
  intro pins s σ H x y v u Q I rx ry h
  obtain ⟨d, xs, hd, hy, ⟨p1, p2, p3⟩, q⟩ := h
  obtain ⟨as, r1⟩ := Dp.reads I d x v hd rx
  rw [if_pos rfl] at q
  rcases hy with hy | hy
  · obtain ⟨bs, r2⟩ := Dp.reads I _ y u hy ry
    exact SeqAt.notIn_list_data r2 r1 p2 p1 (by omega) ⟨.bl _, H, I, rfl, q⟩
  · obtain ⟨bs, r2⟩ := Dp.reads I _ y u hy ry
    exact SeqAt.notIn_tuple_data r2 r1 p2 p1 (by omega) ⟨.bl _, H, I, rfl, q⟩
def rInA (K : Frag) (neg : Bool) : R2 := fun x y H Q => rIn K neg x y H Q ∨ rInD K neg x y H Q
end
theorem flat_rp {K : Frag} {F : Hp} {v : V} {d : D} (h : Rp K F v d) (e : isFlat d = true) : flatV v = true := by
  cases h <;> first | rfl | cases e
theorem eqF_rp {K : Frag} {F : Hp} {v w : V} {d g : D} (h : Rp K F v d) (h' : Rp K F w g) (e : isFlat d = true) (e' : isFlat g = true) : eqV v w = eqF d g := by
  cases h <;> first | (cases e; done) | (cases h' <;> first | rfl | (cases e'; done))
theorem allflat_rp {K : Frag} {F : Hp} : ∀ {ds : List D} {vs : List V}, RpAll K F vs ds → ds.all isFlat = true → vs.all flatV = true
  | [], _, h, _ => by cases h; rfl
  | d :: ds, _, h, e => by
    cases h with
    | cons h1 h2 =>
      rw [List.all_cons, Bool.and_eq_true] at e ⊢
      exact ⟨flat_rp h1 e.1, allflat_rp h2 e.2⟩
theorem inV_rp {K : Frag} {F : Hp} {v : V} {d : D} (h : Rp K F v d) (e : isFlat d = true) : ∀ {ds : List D} {vs : List V}, RpAll K F vs ds → ds.all isFlat = true → inV v vs = ds.any fun y => eqF y d
  | [], _, h, _ => by cases h; rfl
  | x :: ds, _, p, e2 => by
    cases p with
    | cons h1 h2 =>
      rw [List.all_cons, Bool.and_eq_true] at e2
      show ((_ :: _ : List V).any fun y => eqV y v) = _
      rw [List.any_cons, List.any_cons, eqF_rp h1 h e2.1 e]
      have := inV_rp h e h2 e2.2
      unfold inV at this
      rw [this]
theorem opd_in {K : Frag} : OpD K (rInA K false) dIn := by
  intro F H x y dx dy d sm rx ry e Q q
  unfold dIn at e
  split at e
  · obtain ⟨b, e1, e⟩ := bind_some e
    cases e
    unfold inD at e1
    split at e1
    · rename_i hc
      cases e1
      cases ry with
      | lst h1 p1 => exact .inl ⟨_, _, rfl, .inl (SqL.of (sm _ _ h1)), flat_rp rx hc.1, allflat_rp p1 hc.2, by rw [if_neg Bool.false_ne_true, inV_rp rx hc.1 p1 hc.2]; exact q F H _ (Ext.refl sm) (.bl _)⟩
    · split at e1
      · rename_i hc
        cases e1
        exact .inr ⟨_, _, rp_dp _ _ (Rp.mo rx sm), .inl (rp_dp _ _ (Rp.mo ry sm)), hc, by rw [if_neg Bool.false_ne_true]; exact q F H _ (Ext.refl sm) (.bl _)⟩
      · cases e1
  · obtain ⟨b, e1, e⟩ := bind_some e
    cases e
    unfold inD at e1
    split at e1
    · rename_i hc
      cases e1
      cases ry with
      | tup h1 p1 => exact .inl ⟨_, _, rfl, .inr (seqT sm h1), flat_rp rx hc.1, allflat_rp p1 hc.2, by rw [if_neg Bool.false_ne_true, inV_rp rx hc.1 p1 hc.2]; exact q F H _ (Ext.refl sm) (.bl _)⟩
    · split at e1
      · rename_i hc
        cases e1
        exact .inr ⟨_, _, rp_dp _ _ (Rp.mo rx sm), .inr (rp_dp _ _ (Rp.mo ry sm)), hc, by rw [if_neg Bool.false_ne_true]; exact q F H _ (Ext.refl sm) (.bl _)⟩
      · cases e1
  · cases e
theorem opd_nin {K : Frag} : OpD K (rInA K true) dNin := by
  intro F H x y dx dy d sm rx ry e Q q
  unfold dNin at e
  split at e
  · obtain ⟨b, e1, e⟩ := bind_some e
    cases e
    unfold inD at e1
    split at e1
    · rename_i hc
      cases e1
      cases ry with
      | lst h1 p1 => exact .inl ⟨_, _, rfl, .inl (SqL.of (sm _ _ h1)), flat_rp rx hc.1, allflat_rp p1 hc.2, by rw [if_pos rfl, inV_rp rx hc.1 p1 hc.2]; exact q F H _ (Ext.refl sm) (.bl _)⟩
    · split at e1
      · rename_i hc
        cases e1
        exact .inr ⟨_, _, rp_dp _ _ (Rp.mo rx sm), .inl (rp_dp _ _ (Rp.mo ry sm)), hc, by rw [if_pos rfl]; exact q F H _ (Ext.refl sm) (.bl _)⟩
      · cases e1
  · obtain ⟨b, e1, e⟩ := bind_some e
    cases e
    unfold inD at e1
    split at e1
    · rename_i hc
      cases e1
      cases ry with
      | tup h1 p1 => exact .inl ⟨_, _, rfl, .inr (seqT sm h1), flat_rp rx hc.1, allflat_rp p1 hc.2, by rw [if_pos rfl, inV_rp rx hc.1 p1 hc.2]; exact q F H _ (Ext.refl sm) (.bl _)⟩
    · split at e1
      · rename_i hc
        cases e1
        exact .inr ⟨_, _, rp_dp _ _ (Rp.mo rx sm), .inr (rp_dp _ _ (Rp.mo ry sm)), hc, by rw [if_pos rfl]; exact q F H _ (Ext.refl sm) (.bl _)⟩
      · cases e1
  · cases e
section
variable {a b : Expr} {ma mb : EM S} {pos : Pos}
theorem we_in (ha : WE f own a ma) (hb : WE f own b mb) (hm : behindInMarks .In b = false := by with_unfolding_all rfl) : WE f own (.Compare a [.In] [b] pos) (eOp2 dIn ma mb) := we_cmp (r := fun K => rInA K false) (fun i => OpR.or op_in_seq (op_inD (room_u i))) opd_in ha hb hm
theorem we_nin (ha : WE f own a ma) (hb : WE f own b mb) (hm : behindInMarks .NotIn b = false := by with_unfolding_all rfl) : WE f own (.Compare a [.NotIn] [b] pos) (eOp2 dNin ma mb) := we_cmp (r := fun K => rInA K true) (fun i => OpR.or op_notIn_seq (op_notInD (room_u i))) opd_nin ha hb hm
theorem wt_in (ha : WE f own a ma) (hb : WE f own b mb) (hm : behindInMarks .In b = false := by with_unfolding_all rfl) : WT f own (.Compare a [.In] [b] pos) (tOf (eOp2 dIn ma mb)) := wt_cmp (r := fun K => rInA K false) (fun i => OpR.or op_in_seq (op_inD (room_u i))) opd_in ha hb hm
theorem wt_nin (ha : WE f own a ma) (hb : WE f own b mb) (hm : behindInMarks .NotIn b = false := by with_unfolding_all rfl) : WT f own (.Compare a [.NotIn] [b] pos) (tOf (eOp2 dNin ma mb)) := wt_cmp (r := fun K => rInA K true) (fun i => OpR.or op_notIn_seq (op_notInD (room_u i))) opd_nin ha hb hm
end
/-! n.bit_length() -/
def dBits : D → Option D
  | .int i => some (.int (Builtin.Int.intBits i : Nat))
  | _ => none
/-! further walks -/
theorem wi_weak {tg iter : Expr} {m : LM S} {wi : TI} (h : ∀ i, PI (f.X i) tg iter wi) (d : ∀ F0 H0 F H ρ s σ, Stt f.K f.A f.sv own F0 H0 F H ρ s σ → ∀ ds s', m ρ s = some (ds, s') → ∀ R : It → Hp → Prop,
    (∀ F' H' J, Ext f.A.ex F H F' H' → f.A.rel s' H' → Src f.K F' J ds → R J H') → wi σ H R) : WI f own tg iter m := ⟨wi, h, d⟩
theorem src_rev {K : Frag} {F : Hp} {a : Addr} {vs : List V} {ds : List D} (h : F a = some (.lst vs)) (p : RpAll K F vs ds) : Src K F (Itv K a vs.length) ds.reverse := by
  intro F1 H1 s1 s2 i
  have hq : SqL K H1 a vs := SqL.of (s2 _ _ (s1 _ _ h))
  have hl := RpAll.length p
  refine ⟨fun d e => ?_, fun e => by rw [List.length_reverse] at e; show vs.length ≤ i; omega⟩
  have hi : i < ds.length := by
    have := (List.getElem?_eq_some_iff.mp e).1
    rwa [List.length_reverse] at this
  rw [List.getElem?_reverse hi] at e
  obtain ⟨v, e1, r1⟩ := RpAll.get p e
  rw [← hl] at e1
  refine ⟨⟨by omega, vs, v, hq, e1⟩, fun x H2 y => ?_⟩
  obtain ⟨rfl, y⟩ := y
  have := Option.some.inj ((y vs hq).symm.trans e1)
  subst this
  exact ⟨F1, Ext.refl s2, Rp.mo r1 s1⟩
theorem src_revT {K : Frag} {F : Hp} {a : Addr} {vs : List V} {ds : List D} (h : SqT K F a vs) (p : RpAll K F vs ds) : Src K F (RT.ItvT K a vs.length) ds.reverse := by
  intro F1 H1 s1 s2 i
  have hq : SqT K H1 a vs := seqT s2 (seqT s1 h)
  have hl := RpAll.length p
  refine ⟨fun d e => ?_, fun e => by rw [List.length_reverse] at e; show vs.length ≤ i; omega⟩
  have hi : i < ds.length := by
    have := (List.getElem?_eq_some_iff.mp e).1
    rwa [List.length_reverse] at this
  rw [List.getElem?_reverse hi] at e
  obtain ⟨v, e1, r1⟩ := RpAll.get p e
  rw [← hl] at e1
  refine ⟨⟨by omega, vs, v, hq, e1⟩, fun x H2 y => ?_⟩
  obtain ⟨rfl, y⟩ := y
  have := Option.some.inj ((y vs hq).symm.trans e1)
  subst this
  exact ⟨F1, Ext.refl s2, Rp.mo r1 s1⟩
def lRev (m : EM S) : LM S := fun ρ s => bnd (m ρ s) fun d s1 => match d with
  | .list ds => some (ds.reverse, s1)
  | .tuple ds => some (ds.reverse, s1)
  | _ => none
theorem wi_rev {tg e : Expr} {m : EM S} {p pos : Pos} (h : WE f own e m) (hm : ∀ i, (f.X i).mg "reversed" = none) (hg : ∀ i, Gl (f.X i) "reversed" := by intro _; rfl) (hs : ∀ i, starEach [e] (f.X i).env = [(false, eval e (f.X i).env)] := by intro _; rfl) : WI f own tg (.Call (.Name "reversed" p) [e] [] pos) (lRev m) := by
  obtain ⟨t, pt, dt⟩ := h.ex
  refine ⟨RT.iRevA f.K t, fun i => f.hK i ▸ RT.pi_revA (hg i) (hm i) (pt i) (hs := hs i), ?_⟩
  intro F0 H0 F H ρ s σ st ds s' e R q
  obtain ⟨d, s1, e1, e⟩ := bnd_some e
  split at e
  · cases e
    refine dt _ _ _ _ _ _ _ st _ _ e1 _ fun F1 H1 v E1 r1 p1 => ?_
    cases p1 with
    | lst h1 p1 => exact ⟨_, _, rfl, .inl ⟨SqL.of (E1.sub _ _ h1), q F1 H1 _ E1 r1 (src_rev h1 p1)⟩⟩
  · cases e
    refine dt _ _ _ _ _ _ _ st _ _ e1 _ fun F1 H1 v E1 r1 p1 => ?_
    cases p1 with
    | tup h1 p1 => exact ⟨_, _, rfl, .inr ⟨seqT E1.sub h1, q F1 H1 _ E1 r1 (src_revT h1 p1)⟩⟩
  · cases e
theorem zip_get {xs ys : List D} {i : Nat} {d : D} (h : (List.zipWith (fun x y => PyData.tuple [x, y]) xs ys)[i]? = some d) : ∃ x y, xs[i]? = some x ∧ ys[i]? = some y ∧ d = .tuple [x, y] := by
  rw [List.getElem?_zipWith] at h
  cases e1 : xs[i]? with
  | none => rw [e1] at h; cases h
  | some x =>
    cases e2 : ys[i]? with
    | none => rw [e1, e2] at h; cases h
    | some y =>
      rw [e1, e2] at h
      exact ⟨x, y, rfl, rfl, (Option.some.inj h).symm⟩
theorem src_zip {K : Frag} {F : Hp} {a b : Addr} {vs ws : List V} {xs ys : List D} (h : F a = some (.lst vs)) (h' : F b = some (.lst ws)) (p : RpAll K F vs xs) (p' : RpAll K F ws ys) : Src K F (Itz K a b) (List.zipWith (fun x y => PyData.tuple [x, y]) xs ys) := by
  intro F1 H1 s1 s2 i
  have hq : SqL K H1 a vs := SqL.of (s2 _ _ (s1 _ _ h))
  have hq' : SqL K H1 b ws := SqL.of (s2 _ _ (s1 _ _ h'))
  refine ⟨fun d e => ?_, fun e => ⟨vs, ws, hq, hq', ?_⟩⟩
  · obtain ⟨x, y, g1, g2, rfl⟩ := zip_get e
    obtain ⟨v, k1, r1⟩ := RpAll.get p g1
    obtain ⟨w, k2, r2⟩ := RpAll.get p' g2
    refine ⟨⟨vs, ws, v, w, hq, hq', k1, k2⟩, fun z H2 yl => ?_⟩
    obtain ⟨T, x', y', rfl, nT, rfl, j1, j2⟩ := yl
    have := Option.some.inj ((j1 vs hq).symm.trans k1)
    subst this
    have := Option.some.inj ((j2 ws hq').symm.trans k2)
    subst this
    have En := Ext.new (o := .tup [x', y']) s2 nT
    exact ⟨_, En, Rp.tup (SqT.of upd_same) (.cons (Rp.mo r1 (s1.trans En.sF)) (.cons (Rp.mo r2 (s1.trans En.sF)) .nil))⟩
  · rw [List.length_zipWith] at e
    rw [RpAll.length p, RpAll.length p']
    omega
theorem src_zipT {K : Frag} {F : Hp} {a b : Addr} {vs ws : List V} {xs ys : List D} (h : SqT K F a vs) (h' : SqT K F b ws) (p : RpAll K F vs xs) (p' : RpAll K F ws ys) : Src K F (RZ.ItzT K a b) (List.zipWith (fun x y => PyData.tuple [x, y]) xs ys) := by
  intro F1 H1 s1 s2 i
  have hq : SqT K H1 a vs := seqT s2 (seqT s1 h)
  have hq' : SqT K H1 b ws := seqT s2 (seqT s1 h')
  refine ⟨fun d e => ?_, fun e => ⟨vs, ws, hq, hq', ?_⟩⟩
  · obtain ⟨x, y, g1, g2, rfl⟩ := zip_get e
    obtain ⟨v, k1, r1⟩ := RpAll.get p g1
    obtain ⟨w, k2, r2⟩ := RpAll.get p' g2
    refine ⟨⟨vs, ws, v, w, hq, hq', k1, k2⟩, fun z H2 yl => ?_⟩
    obtain ⟨T, x', y', rfl, nT, rfl, j1, j2⟩ := yl
    have := Option.some.inj ((j1 vs hq).symm.trans k1)
    subst this
    have := Option.some.inj ((j2 ws hq').symm.trans k2)
    subst this
    have En := Ext.new (o := .tup [x', y']) s2 nT
    exact ⟨_, En, Rp.tup (SqT.of upd_same) (.cons (Rp.mo r1 (s1.trans En.sF)) (.cons (Rp.mo r2 (s1.trans En.sF)) .nil))⟩
  · rw [List.length_zipWith] at e
    rw [RpAll.length p, RpAll.length p']
    omega
def lZip (m : LM S) : LM S := fun ρ s => bnd (m ρ s) fun ds s1 => match ds with
  | [.list xs, .list ys] => some (List.zipWith (fun x y => PyData.tuple [x, y]) xs ys, s1)
  | [.tuple xs, .tuple ys] => some (List.zipWith (fun x y => PyData.tuple [x, y]) xs ys, s1)
  | _ => none
theorem wi_zip {elts : List Expr} {kk : Nat} {tpos : Pos} {e e2 : Expr} {m : LM S} {p pos : Pos} (h : WA f own [e, e2] m) (hm : ∀ i, (f.X i).mg "zip" = none) (hg : ∀ i, Gl (f.X i) "zip" := by intro _; rfl)
    (hs : ∀ i, starEach [e, e2] (f.X i).env = (false, eval e (f.X i).env) :: starEach [e2] (f.X i).env := by intro _; rfl) (hpl : ∀ i, (backTo pos (starEach [e2] (f.X i).env)).any (·.1) = false := by intro _; rfl) : WI f own (.Tuple elts kk tpos) (.Call (.Name "zip" p) [e, e2] [] pos) (lZip m) := by
  obtain ⟨t, pt, dt⟩ := h.ex
  refine ⟨RZ.iZipA f.K t, fun i => f.hK i ▸ RZ.pi_zipA (hg i) (hm i) (pt i) (hs := hs i) (hpl := hpl i), ?_⟩
  intro F0 H0 F H ρ s σ st ds s' e R q
  obtain ⟨d, s1, e1, e⟩ := bnd_some e
  split at e
  · cases e
    refine dt _ _ _ _ _ _ _ st _ _ e1 _ fun F1 H1 vs E1 r1 pp => ?_
    obtain ⟨v, w, rfl, q1, q2⟩ := rp2 pp
    cases q1 with
    | lst h1 p1 =>
      cases q2 with
      | lst h2 p2 => exact ⟨_, _, _, _, rfl, .inl ⟨SqL.of (E1.sub _ _ h1), SqL.of (E1.sub _ _ h2), q F1 H1 _ E1 r1 (src_zip h1 h2 p1 p2)⟩⟩
  · cases e
    refine dt _ _ _ _ _ _ _ st _ _ e1 _ fun F1 H1 vs E1 r1 pp => ?_
    obtain ⟨v, w, rfl, q1, q2⟩ := rp2 pp
    cases q1 with
    | tup h1 p1 =>
      cases q2 with
      | tup h2 p2 => exact ⟨_, _, _, _, rfl, .inr ⟨seqT E1.sub h1, seqT E1.sub h2, q F1 H1 _ E1 r1 (src_zipT h1 h2 p1 p2)⟩⟩
  · cases e
def enumD (xs : List D) : List D := xs.mapIdx fun i x => .tuple [.int i, x]
theorem src_enum {K : Frag} {F : Hp} {a : Addr} {vs : List V} {ds : List D} (h : F a = some (.lst vs)) (p : RpAll K F vs ds) : Src K F (Ite K a) (enumD ds) := by
  intro F1 H1 s1 s2 i
  have hq : SqL K H1 a vs := SqL.of (s2 _ _ (s1 _ _ h))
  have hl := RpAll.length p
  refine ⟨fun d e => ?_, fun e => ⟨vs, hq, by unfold enumD at e; rw [List.length_mapIdx] at e; omega⟩⟩
  unfold enumD at e
  rw [List.getElem?_mapIdx] at e
  cases e0 : ds[i]? with
  | none => rw [e0] at e; cases e
  | some d0 =>
    rw [e0] at e
    have e := (Option.some.inj e).symm
    subst e
    obtain ⟨v, e1, r1⟩ := RpAll.get p e0
    refine ⟨⟨vs, v, hq, e1⟩, fun x H2 y => ?_⟩
    obtain ⟨T, x', rfl, nT, rfl, j1⟩ := y
    have := Option.some.inj ((j1 vs hq).symm.trans e1)
    subst this
    have En := Ext.new (o := .tup [.int (i : Nat), x']) s2 nT
    exact ⟨_, En, Rp.tup (SqT.of upd_same) (.cons (.int _) (.cons (Rp.mo r1 (s1.trans En.sF)) .nil))⟩
theorem src_enumT {K : Frag} {F : Hp} {a : Addr} {vs : List V} {ds : List D} (h : SqT K F a vs) (p : RpAll K F vs ds) : Src K F (IteT K a) (enumD ds) := by
  intro F1 H1 s1 s2 i
  have hq : SqT K H1 a vs := seqT s2 (seqT s1 h)
  have hl := RpAll.length p
  refine ⟨fun d e => ?_, fun e => ⟨vs, hq, by unfold enumD at e; rw [List.length_mapIdx] at e; omega⟩⟩
  unfold enumD at e
  rw [List.getElem?_mapIdx] at e
  cases e0 : ds[i]? with
  | none => rw [e0] at e; cases e
  | some d0 =>
    rw [e0] at e
    have e := (Option.some.inj e).symm
    subst e
    obtain ⟨v, e1, r1⟩ := RpAll.get p e0
    refine ⟨⟨vs, v, hq, e1⟩, fun x H2 y => ?_⟩
    obtain ⟨T, x', rfl, nT, rfl, j1⟩ := y
    have := Option.some.inj ((j1 vs hq).symm.trans e1)
    subst this
    have En := Ext.new (o := .tup [.int (i : Nat), x']) s2 nT
    exact ⟨_, En, Rp.tup (SqT.of upd_same) (.cons (.int _) (.cons (Rp.mo r1 (s1.trans En.sF)) .nil))⟩
def lEnum (m : LM S) : LM S := fun ρ s => bnd (m ρ s) fun ds s1 => match ds with
  | [.list xs] => some (enumD xs, s1)
  | [.tuple xs] => some (enumD xs, s1)
  | _ => none
theorem wi_enum {elts : List Expr} {kk : Nat} {tpos : Pos} {e : Expr} {m : LM S} {p pos : Pos} (h : WA f own [e] m) (hm : ∀ i, (f.X i).mg "enumerate" = none) (hg : ∀ i, Gl (f.X i) "enumerate" := by intro _; rfl)
    (hs : ∀ i, starEach [e] (f.X i).env = [(false, eval e (f.X i).env)] := by intro _; rfl) : WI f own (.Tuple elts kk tpos) (.Call (.Name "enumerate" p) [e] [] pos) (lEnum m) := by
  obtain ⟨t, pt, dt⟩ := h.ex
  refine ⟨iEnumA f.K t, fun i => f.hK i ▸ pi_enumA (hg i) (hm i) (pt i) (hs := hs i), ?_⟩
  intro F0 H0 F H ρ s σ st ds s' e R q
  obtain ⟨d, s1, e1, e⟩ := bnd_some e
  split at e
  · cases e
    refine dt _ _ _ _ _ _ _ st _ _ e1 _ fun F1 H1 vs E1 r1 pp => ?_
    obtain ⟨v, rfl, q1⟩ := rp1 pp
    cases q1 with
    | lst h1 p1 => exact ⟨_, _, rfl, .inl ⟨SqL.of (E1.sub _ _ h1), q F1 H1 _ E1 r1 (src_enum h1 p1)⟩⟩
  · cases e
    refine dt _ _ _ _ _ _ _ st _ _ e1 _ fun F1 H1 vs E1 r1 pp => ?_
    obtain ⟨v, rfl, q1⟩ := rp1 pp
    cases q1 with
    | tup h1 p1 => exact ⟨_, _, rfl, .inr ⟨seqT E1.sub h1, q F1 H1 _ E1 r1 (src_enumT h1 p1)⟩⟩
  · cases e
/-- n.bit_length() -/
theorem we_bits {o : Expr} {m : EM S} {apos cpos : Pos} (h : WE f own o m) (hbase : ∀ j, attributeBase o "bit_length" (f.X j).env (eval o (f.X j).env) = eval o (f.X j).env := by intro _; rfl) (hline : (apos.endLine == cpos.line) = true := by rfl) :
    WE f own (.Call (.Attribute o "bit_length" apos) [] [] cpos) (eOp1 dBits m) := by
  obtain ⟨t, pt, dt⟩ := h.ex
  refine ⟨_, fun i => pe_bits (pt i) (hbase := hbase i) (hline := hline), ?_⟩
  intro F0 H0 F H ρ s σ st d s' e Q q
  obtain ⟨x, s1, e1, e⟩ := bnd_some e
  obtain ⟨z, e3, e⟩ := bind_some e
  cases e
  refine dt _ _ _ _ _ _ _ st x _ e1 _ fun F1 H1 v E1 r1 p1 => ?_
  unfold dBits at e3
  split at e3
  · cases e3
    cases p1
    exact ⟨_, rfl, q F1 H1 _ E1 r1 (.int _)⟩
  · cases e3
end
abbrev rAbsX (_ : Frag) : List V → Hp → VK → Prop := fun xs H Q => ∃ i, xs = [.int i] ∧ Q (.int (if i < 0 then -i else i)) H
abbrev rMax2X (_ : Frag) : List V → Hp → VK → Prop := fun xs H Q => ∃ i j, xs = [.int i, .int j] ∧ Q (.int (if j > i then j else i)) H
abbrev rMin2X (_ : Frag) : List V → Hp → VK → Prop := fun xs H Q => ∃ i j, xs = [.int i, .int j] ∧ Q (.int (if j < i then j else i)) H
abbrev rIntX (_ : Frag) : List V → Hp → VK → Prop := fun xs H Q => (∃ i, xs = [.int i] ∧ Q (.int i) H) ∨ ∃ k, xs = [.bl k] ∧ Q (.int (if k then 1 else 0)) H
abbrev rTupX (K : Frag) : List V → Hp → VK → Prop := fun xs H Q => ∃ p ys, xs = [.ref p] ∧ ((SqL K H p ys ∧ ∀ l, H l = none → Q (.ref l) (upd H l (.tup ys))) ∨ (SqT K H p ys ∧ Q (.ref p) H))
abbrev rListX (K : Frag) : List V → Hp → VK → Prop := fun xs H Q => ∃ p ys, xs = [.ref p] ∧ (SqL K H p ys ∨ SqT K H p ys) ∧ ∀ l, H l = none → Q (.ref l) (upd H l (.lst ys))
section
variable {S : Type} {f : Fam S} {own : List Nat}
theorem we_gcd {x : Str} {p pos : Pos} {e : Expr} {es : List Expr} {m : LM S} (ha : WA f own (e :: es) m) (hm : ∀ i, (f.X i).mg x = some (.builtin "math.gcd")) (hg : ∀ i, Gl (f.X i) x := by intro _; rfl) (hdb : (x == ("__debug__" : Str)) = false := by decide)
    (he : ∀ i, starEach (e :: es) (f.X i).env = (false, eval e (f.X i).env) :: starEach es (f.X i).env := by intro _; rfl) (hpl : ∀ i, (backTo pos (starEach es (f.X i).env)).any (·.1) = false := by intro _; rfl) :
    WE f own (.Call (.Name x p) (e :: es) [] pos) (eCall gGcd m) := by
  obtain ⟨t, pt, dt⟩ := ha.ex
  exact ⟨_, fun i => pe_callBfun cr_gcd (hg i) (hm i) (pt i) hdb (he i) (hpl i), de_call cd_gcd dt⟩
end
end G

set_option maxHeartbeats 2000000
/-! any, all of a generator expression in general: the generator's body has a context of its own. -/
namespace G
open PySem PySem.Spec PyProof.Rows L2 GenW

/-- a generator expression's scope: its own names (with their places in N), or captured -/
structure GenOk (N : List Str) (sc scope : Scope) (own : List (Str × Nat)) : Prop where
  kind : scope.kind = .function
  co : scope.isCoroutine = false
  dot : scope.names.lookup (".0" : Str) = some NameKind.local
  cell : ∀ y ∈ scope.names, y.2 ≠ .cell
  uniq : ∀ y ∈ scope.names, scope.names.lookup y.1 = some y.2
  ix : ∀ p ∈ own, N[p.2]? = some p.1
  free : ∀ y ∈ scope.names, y.2 = .free → sc.names.lookup y.1 = some .cell ∨ sc.names.lookup y.1 = some .free
  own : ∀ y ∈ scope.names, y.2 = .local → y.1 ∈ own.map (·.1) ∨ y.1 ∉ N
abbrev gEnv (X : Cx) (scope : Scope) (C : Addr) (code : Value) : Env := genEnv scope (cloFrom X.env.cells scope.names []) C code builtinsNs X.env
/-- the context of the generator's body -/
abbrev genCx (X : Cx) (A : Around) (s : Shared) (H : Hp) (cenv : Env) (fp : List Addr) : Cx :=
  { X with A := A, s_0 := s, H_0 := H, env := cenv, outer := X.stack, stack := cenv :: X.stack, ex := fp, fn := fun _ => false, pn := [], xe := fun _ _ => False }
section
variable {X : Cx} {pins : List (Addr × Obj)} {σ : L2.St} {H : Hp} {s : Shared}
theorem GenOk.has {scope : Scope} {own : List (Str × Nat)} (ok : GenOk X.N X.env.scope scope own) (ok' : X.Ok) : ∀ y ∈ scope.names, y.2 = .free → ∃ c, X.env.cells.lookup y.1 = some c := fun y hy e => by
  rcases ok.free y hy e with k | k
  · exact ok'.has _ (.inl k)
  · exact ok'.has _ (.inr k)
theorem gen_start {A : Around} {scope : Scope} {own : List (Str × Nat)} {fp : List Addr} {code : Value} {h' : Heap} {g' : Array GenState} {t' : Nat} {mm : Str → Option Value} (I : Inv X pins σ H s) (ok : GenOk X.N X.env.scope scope own) (hN : X.N.Nodup) (hfp : ∀ b ∈ fp, FpOk X pins H b ∧ b < s.heap.objs.size)
    (hA : A.handled = none) (hF : A.frames = some (gEnv X scope s.heap.objs.size code :: X.stack)) (hns : h'.Ns s.heap.objs.size mm) (kp : ∀ b o, s.heap.get? b = some o → h'.get? b = some o) (hg : AllBare g') :
    Inv (genCx X A s H (gEnv X scope s.heap.objs.size code) fp) [] (wipe σ (own.map (·.2))) H { s with heap := h', gens := g', toks := t' } := by
  have hfree := ok.has I.ok
  have cm : ∀ {y c}, (cloFrom X.env.cells scope.names []).lookup y = some c → X.env.cells.lookup y = some c := fun {y c} e => by
    rcases cloFrom_mem (PySem.mem_of_lookup e) with hm | ⟨h1, h2⟩
    · cases hm
    · obtain ⟨c1, hc⟩ := hfree _ h1 rfl
      have hc : X.env.cells.lookup y = some c1 := hc
      have e2 : c = c1 := by
        rw [h2, hc] <;> rfl
      rw [e2]
      exact hc
  have look : ∀ {y}, scope.names.lookup y = some .free → ∃ c, (cloFrom X.env.cells scope.names []).lookup y = some c := fun {y} hl => by
    have hy : (y, NameKind.free) ∈ scope.names := PySem.mem_of_lookup hl
    exact mem_lookup (cloFrom_has (cells := X.env.cells) (acc := []) hy)
  have nC : ∀ y, scope.names.lookup y ≠ some .cell := fun y z => ok.cell _ (PySem.mem_of_lookup z) rfl
  refine ⟨⟨I.ok.mod, ok.kind, I.ok.glob, rfl, Nat.le_refl _, fun y z c e1 e2 => I.ok.inj y z c (cm e1) (cm e2), fun y hy => ?_, fun y c z _ => ?_, fun _ => hA, hF, .inr ⟨rfl, rfl⟩, fun b hb => ⟨?_, fun y c e z => ?_⟩, I.bs, Nat.le_trans I.ok.bsz I.sz, fun b o e hb => ?_, fun b hb z => ?_, I.stack, I.stkFree⟩,
    rfl, hg, Un.kept kp, ⟨mm, hns, fun i y av e1 e2 e3 => ?_⟩, fun y c e => ?_, I.hok.fresh (Nat.le_refl _), fun y c e => I.freeC y c (cm e), fun p hp => absurd (show p ∈ ([] : List (Addr × Obj)) ++ [] from hp) (by simp), I.hok.kept kp, by rw [wipe_length]; exact I.len⟩
  · have hy : scope.names.lookup y = some .cell ∨ scope.names.lookup y = some .free := hy
    rcases hy with hy | hy
    · exact absurd hy (nC y)
    · exact look hy
  · have z : false = true := z
    cases z
  · show b ≠ s.heap.objs.size
    exact Nat.ne_of_lt (hfp b hb).2
  · exact (hfp b hb).1.2.2.2.2.1 y c (cm e) z
  · rcases (hfp b hb).1.2.2.2.1 with z | z
    · exact I.ok.noex b o e z
    · exact absurd (Nat.lt_of_lt_of_le (Heap.lt_size e) (Nat.le_trans I.ok.bsz z)) (Nat.lt_irrefl _)
  · rcases List.mem_cons.mp (I.stkSub b z) with z | z
    · exact (hfp b hb).1.2.1 z
    · exact (hfp b hb).1.2.2.1 z
  · obtain ⟨e2, hne⟩ := wipe_some e2
    have e3 : Vis scope y := e3
    rcases e3 with k | k | k
    · rcases ok.own _ (PySem.mem_of_lookup k) rfl with e' | e'
      · obtain ⟨p, hp, hpy⟩ := List.mem_map.mp e'
        have e3 := ok.ix p hp
        have : p.1 = y := hpy
        rw [this] at e3
        exact absurd (List.mem_map.mpr ⟨p, hp, nodup_ix hN e3 e1⟩) hne
      · exact absurd (List.mem_of_getElem? e1) e'
    · exact absurd k (nC y)
    · obtain ⟨m, hn, hl⟩ := I.loc
      have hvis : Vis X.env.scope y := (ok.free _ (PySem.mem_of_lookup k) rfl).elim (fun k => .inr (.inl k)) (fun k => .inr (.inr k))
      obtain ⟨w, r, q⟩ := hl i y av e1 e2 hvis
      obtain ⟨c, h1⟩ := look k
      refine ⟨w, r, .inr ⟨.inr k, c, h1, ?_⟩⟩
      have c1 := cm h1
      rcases q with ⟨k', _⟩ | ⟨_, c', e', z⟩
      · have k' : X.env.scope.names.lookup y = some .local := k'
        rcases ok.free _ (PySem.mem_of_lookup k) rfl with k2 | k2 <;> rw [show X.env.scope.names.lookup y = _ from k2] at k' <;> cases k'
      · rw [c1] at e'
        cases e'
        exact z.keeps kp
  · obtain ⟨w, z⟩ := I.cell y c (cm e)
    exact ⟨w, z.keeps kp⟩
/-- any(..) stops at true, all(..) at false -/
def tGen (P : Addr) (k : Bool) (wi : TI) (g : TG) (tt : TT) (te : TE) (vs : List Nat) : TE := fun σ H Q => wi σ H fun J H1 => GxR.TabG H1 P ∧ ∀ H2, GxR.Tabbed P H1 H2 → ∃ W : Nat → Nat → Hp → Prop, (∃ m, W 0 m H2) ∧ ∀ i m H, W i m H →
  (J.stop i H ∧ Q (.bl (!k)) H) ∨ (J.go i H ∧ ∃ Nx : Hp → Prop, (∀ H', Nx H' → ∃ m', m' < m ∧ W (i + 1) m' H') ∧ ∀ x H', J.yld i H x H' → g x (wipe σ vs) H' fun σ2 H2 => wipe σ2 vs = wipe σ vs ∧ tt σ2 H2 fun b H3 =>
    if b = true then te σ2 H3 fun y H4 => ∃ b, y = .bl b ∧ (b = k → Q (.bl k) H4) ∧ (b ≠ k → Nx H4) else Nx H3)
def GenV (k : Bool) (Q : VK) (Io : Hp → Shared → Prop) (a : Addr) (g : Nat) : Protocol := fun _ _ v s kap => ∃ H' b, v = .bool b ∧ Io H' s ∧ s.heap.IsGen a g ∧ (b = k → Q (.bl k) H') ∧
  (b ≠ k → ∀ gs', AllBare gs' → kap (.send .none) { s with gens := gs' })
def GenR (k : Bool) (Q : VK) (Io : Hp → Shared → Prop) : GenEnd := fun n s₀ r s₁ => ((r = .ok (.ret .none) ∨ r = .ok .next) ∧ ((fun (_ : Nat) (_ : Shared) s => ∃ H', Io H' s ∧ Q (.bl (!k)) H') n s₀ s₁)) ∨ ∃ e, r = .error e ∧ ((fun (_ : Value) (_ : Shared) => False) e s₁)
/-- around the body -/
abbrev gA (A : Around) (elt tg iter : Expr) (ifs : List Expr) (scope : Scope) (pos : Pos) (it : Addr) (env : Env) : Around := A.over (.compLoop (.GeneratorExp elt [⟨tg, iter, ifs, 0⟩] scope pos) 0 (.ref it) .none env) []
theorem over_frames {A : Around} {l : List Env} {elt tg iter : Expr} {ifs : List Expr} {scope : Scope} {pos : Pos} {it acc : Value} {env : Env} (h : A.frames = some l) : (A.over (.compLoop (.GeneratorExp elt [⟨tg, iter, ifs, 0⟩] scope pos) 0 it acc env) []).frames = some (env :: l) := by
  show pushEnvs [env] A.frames = _
  rw [h]
  rfl
theorem seg_gen {A : Around} {k : Bool} {Q : VK} {a : Addr} {ga : Nat} {elt tg iter : Expr} {ifs : List Expr} {scope : Scope} {own : List (Str × Nat)} {pos : Pos} {g : TG} {tt : TT} {te : TE} {it : Addr} {fp : List Addr} {tn : Nat → Heap → Prop} {J : It} {code : Value} {W : Nat → Nat → Hp → Prop} {ho : Heap}
    (hc : X.calm = true) (hh : A.handled = none) (ok : GenOk X.N X.env.scope scope own) (T : Turn X.prog X.w X.K tg J fp it tn)
    (I0 : Inv X pins σ H s) (hfp : ∀ b ∈ fp, FpOk X pins H b) (ha : ho.IsGen a ga) (nea : ∀ b ∈ fp, b ≠ a)
    (pg : PG (genCx X (gA A elt tg iter ifs scope pos it (gEnv X scope s.heap.objs.size code)) s H (gEnv X scope s.heap.objs.size code) fp) tg g)
    (pt : PTs (genCx X (gA A elt tg iter ifs scope pos it (gEnv X scope s.heap.objs.size code)) s H (gEnv X scope s.heap.objs.size code) fp) ifs tt)
    (pe : PE (genCx X (gA A elt tg iter ifs scope pos it (gEnv X scope s.heap.objs.size code)) s H (gEnv X scope s.heap.objs.size code) fp) elt te)
    (turn : ∀ i m H, W i m H → (J.stop i H ∧ Q (.bl (!k)) H) ∨ (J.go i H ∧ ∃ Nx : Hp → Prop, (∀ H', Nx H' → ∃ m', m' < m ∧ W (i + 1) m' H') ∧ ∀ x H', J.yld i H x H' → g x (wipe σ (own.map (·.2))) H' fun σ2 H2 => wipe σ2 (own.map (·.2)) = wipe σ (own.map (·.2)) ∧ tt σ2 H2 fun b H3 =>
      if b = true then te σ2 H3 fun y H4 => ∃ b, y = .bl b ∧ (b = k → Q (.bl k) H4) ∧ (b ≠ k → Nx H4) else Nx H3)) :
    ∀ (m i n : Nat) (s₀ s' : Shared) (H' : Hp), W i m H' → m < n →
      Inv (genCx X (gA A elt tg iter ifs scope pos it (gEnv X scope s.heap.objs.size code)) s H (gEnv X scope s.heap.objs.size code) fp) (pinsAt [a] ho) (wipe σ (own.map (·.2))) H' s' → tn i s'.heap → (∀ b ∈ fp, H' b = none) →
      Seg (model X.prog X.w) A (GenR k Q fun H' s' => Inv X pins σ H' s') (GenV k Q (fun H' s' => Inv X pins σ H' s') a ga) n s₀ (.compLoop (.GeneratorExp elt [⟨tg, iter, ifs, 0⟩] scope pos) 0 (.ref it) .none (gEnv X scope s.heap.objs.size code))
        ((model X.prog X.w).den (.compLoop (.GeneratorExp elt [⟨tg, iter, ifs, 0⟩] scope pos) 0 (.ref it) .none (gEnv X scope s.heap.objs.size code))) [] s' := by
  generalize hce : gEnv X scope s.heap.objs.size code = ce at pg pt pe ⊢
  have hco : ce.scope.isCoroutine = false := by rw [← hce]; exact ok.co
  -- what stands of the iterator in the generator's context
  have stat : ∀ {pl : List (Addr × Obj)} {σ' : L2.St} {H' : Hp} {s' : Shared}, Inv (genCx X (gA A elt tg iter ifs scope pos it ce) s H ce fp) (pinsAt [a] ho) σ' H' s' → (∀ b ∈ fp, H' b = none) → ∀ b ∈ fp, FpOk (genCx X (gA A elt tg iter ifs scope pos it ce) s H ce fp) (pinsAt [a] ho) H' b := fun {pl σ' H' s'} I' hn b hb =>
    ⟨hn b hb, (I'.ok.exf b hb).1, I'.ok.exfs b hb, .inl hb, fun x c e => (I'.ok.exf b hb).2 x c e, fun p hp => by
      have hp : p ∈ ([] : List (Addr × Obj)) ++ pinsAt [a] ho := hp
      rw [List.nil_append] at hp
      have := (of_pinsAt hp).1
      rw [List.mem_singleton] at this
      rw [this]
      exact fun z => nea b hb z.symm⟩
  -- back in the def's context
  have back : ∀ {pl : List (Addr × Obj)} {σ' : L2.St} {H' : Hp} {s' : Shared}, Inv (genCx X (gA A elt tg iter ifs scope pos it ce) s H ce fp) pl σ' H' s' → Inv X pins σ H' s' := fun {pl σ' H' s'} I' =>
    I0.call' (ch := fp) I'.os I'.base I'.hok I'.bare fun b hb => ⟨(hfp b hb).2.2.2.1, (hfp b hb).2.1, (hfp b hb).2.2.2.2.1, (hfp b hb).2.2.2.2.2⟩
  obtain ⟨oa, nm, qn, hoa, hcl, hda, hsl⟩ := ha
  have isGen : ∀ {pl : List (Addr × Obj)} {σ' : L2.St} {H' : Hp} {s' : Shared}, Inv (genCx X (gA A elt tg iter ifs scope pos it ce) s H ce fp) (pinsAt [a] ho ++ pl) σ' H' s' → s'.heap.IsGen a ga := fun {pl σ' H' s'} I' =>
    ⟨oa, nm, qn, (I'.pin (a, oa) (List.mem_append_right _ (List.mem_append_left _ (mem_pinsAt (List.mem_singleton.mpr rfl) hoa)))).1, hcl, hda, hsl⟩
  intro m
  induction m using Nat.strongRecOn with
  | _ m ih =>
  intro i n s₀ s' H' hW hn I st hnf
  show Seg _ A _ _ _ s₀ _ ((compTurn (.GeneratorExp elt [⟨tg, iter, ifs, 0⟩] scope pos) 0 (.ref it) .none ce).onRaise (leaving ce)) [] s'
  rw [compTurn_gen, Sem.onRaise_eq_wrap]
  refine seg_bind_wrap (wpAny_standAt ?_)
  rcases turn i m H' hW with ⟨stop, qq⟩ | ⟨go, Nx, hNx, step⟩
  · refine seg_bind_wrap ?_
    refine wpAny_mono (T.done (genCx X (gA A elt tg iter ifs scope pos it ce) s H ce fp) rfl rfl rfl hc i _ s' _ H' (fun _ _ => False) I (stat (pl := []) I hnf) st stop) (fun r s6 ⟨hr, I6⟩ => ?_) fun _ _ z => z.elim
    subst hr
    exact seg_end (.ok .next) (.inl ⟨.inr rfl, H', back I6, qq⟩)
  · refine seg_bind_wrap ?_
    refine wpAny_mono (T.item (genCx X (gA A elt tg iter ifs scope pos it ce) s H ce fp) rfl rfl rfl hc i _ s' _ H' (fun _ _ => False) I (stat (pl := []) I hnf) st go) (fun r s6 ⟨u, hr, h6⟩ => ?_) fun _ _ z => z.elim
    subst hr
    refine seg_bind_wrap (wpAny_mono h6 (fun _ s7 ⟨x, H7, I7, r7, y7, st7, n7⟩ => ?_) fun _ _ z => z.elim)
    have I7' := I7.pinned (stat (pl := []) I7 n7) (T.obj _ _ st7)
    refine seg_bind_wrap (wpAny_mono (pg.run _ s7 _ H7 x u _ I7' r7 (step x H7 y7)) (fun _ s8 ⟨σ8, H8, I8, hw8, q8⟩ => ?_) fun _ _ z => z.elim)
    refine seg_bind_wrap (wpAny_mono (pt.run _ s8 σ8 H8 _ I8 q8) (fun b s9 ⟨H9, I9, q9⟩ => ?_) fun _ _ z => z.elim)
    -- the turn's end
    have fin : ∀ {s' : Shared} {H' : Hp} {gs' : Array GenState} {n : Nat}, Inv (genCx X (gA A elt tg iter ifs scope pos it ce) s H ce fp) (pinsAt [a] ho ++ pinsAt fp s7.heap) σ8 H' s' → AllBare gs' → Nx H' → m ≤ n → ∀ s₀ : Shared,
      Seg (model X.prog X.w) A (GenR k Q fun H' s' => Inv X pins σ H' s') (GenV k Q (fun H' s' => Inv X pins σ H' s') a ga) n s₀ (.compLoop (.GeneratorExp elt [⟨tg, iter, ifs, 0⟩] scope pos) 0 (.ref it) .none ce)
        ((model X.prog X.w).den (.compLoop (.GeneratorExp elt [⟨tg, iter, ifs, 0⟩] scope pos) 0 (.ref it) .none ce)) [] { s' with gens := gs' } := fun {s' H' gs' n} I' hg nx hm s₀ => by
      obtain ⟨m', hm', w'⟩ := hNx H' nx
      have pin' : ∀ b ∈ fp, ∀ o, s7.heap.get? b = some o → s'.heap.get? b = some o ∧ H' b = none := fun b hb o e =>
        let z := I'.pin (b, o) (List.mem_append_right _ (List.mem_append_right _ (mem_pinsAt hb e)))
        ⟨z.1, z.2.1⟩
      have hl : (wipe σ (own.map (·.2))).length = σ8.length := by rw [← hw8, wipe_length]
      refine ih m' hm' (i + 1) n s₀ _ H' w' (Nat.lt_of_lt_of_le hm' hm) ?_ (T.keep _ _ _ st7 fun b hb o e => (pin' b hb o e).1) fun b hb => ?_
      · have I2 := (I'.unpinned (pins := pinsAt [a] ho)).weak hl (fun j v e => by
          rw [← hw8] at e
          exact (wipe_some e).1)
        exact ⟨I2.ok, I2.os, hg, I2.base, I2.loc, I2.cell, I2.free, I2.freeC, I2.pin, I2.hok, I2.len⟩
      · obtain ⟨o, e, _⟩ := T.obj _ _ st7 b hb
        exact (pin' b hb o e).2
    cases b with
    | false =>
      simp only [Bool.false_eq_true, if_false] at q9 ⊢
      exact seg_again rfl (fin (s' := s9) I9 I9.bare q9 (Nat.le_of_lt hn) s₀)
    | true =>
      simp only [if_true] at q9 ⊢
      have hy : ∀ v, yieldOut ce v = yieldValue v := fun v => by simp only [yieldOut, hco, Bool.false_eq_true, if_false]
      simp only [hy]
      rw [Sem.bind_eq_wrap', Sem.bind_eq_wrap', Sem.wrap_wrap, Sem.wrap_wrap]
      refine seg_wrap (wpAny_mono (pe.run _ s9 σ8 H9 _ I9 q9) (fun z s10 ⟨yv, H10, I10, r10, bb, e10, qt, qf⟩ => ?_) fun _ _ z => z.elim)
      subst e10
      obtain rfl : z = Value.bool bb := r10
      obtain ⟨n', rfl⟩ : ∃ n', n = n' + 1 := ⟨n - 1, by omega⟩
      refine seg_at (seg_yield rfl rfl rfl ⟨H10, bb, rfl, back I10, isGen I10, qt, fun ne gs' hgs => ?_⟩)
      exact seg_again rfl (fin (s' := s10) I10 hgs (qf ne) (by omega) _)
end
section
variable {P : Program} {w : World} {A : Around} {Q : VK} {Io : Hp → Shared → Prop} {a : Addr} {g : Nat} {R : Result → Shared → Prop}
/-- what stands between the yields bears a new table of generators, a greater heap -/
structure IoOk (Io : Hp → Shared → Prop) : Prop where
  gens : ∀ H' s' gs', Io H' s' → AllBare gs' → Io H' { s' with gens := gs' }
  heap : ∀ H' (s' : Shared) h', Io H' s' → (∀ b o, s'.heap.get? b = some o → h'.get? b = some o) → Io H' { s' with heap := h' }
  lim : ∀ H' s', Io H' s' → s'.heap.NoLimit ∧ AllBare s'.gens
theorem anyG_loop (hh : A.handled = none) (hd : A.depth < recursionLimit) (hI : IoOk Io) (hR : ∀ b H' s', Io H' s' → Q (.bl b) H' → R (.ok (.ret (.bool b))) s') :
    ∀ (n : Nat) (s : Shared), s.heap.IsGen a g → s.heap.NoLimit → (∃ gs, s.gens[g]? = some gs ∧ gs.Goes (model P w) A.in1.in1 (GenR true Q Io) (GenV true Q Io a g) n (.send .none) (s.setGen g .running)) →
      codeAny (model P w) A (.builtin "any.loop" ⟨[.ref a], []⟩) R s := by
  intro n
  induction n with
  | zero =>
    intro s hg hl ⟨gs, hgs, hgo⟩
    refine codeAny_builtin F.entry_any_loop ?_
    rw [Around.under_plainId F.plain_any_loop _]
    show wpAny _ A.in1 (pyNext (.ref a) >>= _) _ _ s
    refine wpAny_bind (next_genG (A := A.in1) (Y := GenV true Q Io a g) hh hl hd hg hgs hgo (fun v s₁ gs' hbare hv => ?_) (fun s₁ hp h' hk => ?_) fun e s₁ he => he.elim)
    · obtain ⟨H', b, rfl, io, hg1, qt, qf⟩ := hv
      cases b with
      | false => exact False.elim (qf (by decide) s₁.gens (hI.lim _ _ io).2)
      | true =>
        refine wpAny_bind (wpAny_holding (wpAny_truthy_bool ?_))
        refine wpAny_bind (wpAny_letGo ?_)
        simp only [if_true]
        refine wpAny_bind (wpAny_rule (wpAny_pure ?_))
        exact hR true H' _ (hI.gens H' s₁ _ io (allBare_setGen (s := s₁) (hI.lim _ _ io).2 hbare)) (qt rfl)
    · obtain ⟨H', io, q⟩ := hp
      refine wpAny_bind (wpAny_rule (wpAny_pure ?_))
      exact hR false H' _ (hI.heap H' (s₁.setGen g .finished) h' (hI.gens H' s₁ _ io (allBare_setGen (s := s₁) (hI.lim _ _ io).2 rfl)) hk) q
  | succ n ih =>
    intro s hg hl ⟨gs, hgs, hgo⟩
    have hgl : g < s.gens.size := (Array.getElem?_eq_some_iff.mp hgs).1
    refine codeAny_builtin F.entry_any_loop ?_
    rw [Around.under_plainId F.plain_any_loop _]
    show wpAny _ A.in1 (pyNext (.ref a) >>= _) _ _ s
    refine wpAny_bind (wpAny_gsz (n := g + 1) hgl (next_genG (A := A.in1) (Y := GenV true Q Io a g) hh hl hd hg hgs hgo (fun v s₁ gs' hbare hv => ?_) (fun s₁ hp h' hk => ?_) fun e s₁ he => he.elim))
    · intro hsz
      obtain ⟨H', b, rfl, io, hg1, qt, qf⟩ := hv
      have hsz1 : g < s₁.gens.size := by
        have q : (s₁.setGen g gs').gens.size = s₁.gens.size := setGen_size _ _ _
        have hsz' : g + 1 ≤ (s₁.setGen g gs').gens.size := hsz
        omega
      have ab := allBare_setGen (s := s₁) (g := g) (hI.lim _ _ io).2 hbare
      refine wpAny_bind (wpAny_holding (wpAny_truthy_bool ?_))
      refine wpAny_bind (wpAny_letGo ?_)
      cases b with
      | false =>
        simp only [Bool.false_eq_true, if_false]
        refine wpAny_pure ⟨plainId_quiet F.plain_any_loop _, ih (s₁.setGen g gs') hg1 (hI.lim _ _ io).1 ⟨gs', setGen_at hsz1, ?_⟩⟩
        exact qf (by decide) _ (allBare_setGen (s := s₁.setGen g gs') (g := g) ab rfl)
      | true =>
        simp only [if_true]
        refine wpAny_bind (wpAny_rule (wpAny_pure ?_))
        exact hR true H' _ (hI.gens H' s₁ _ io ab) (qt rfl)
    · intro hsz
      obtain ⟨H', io, q⟩ := hp
      refine wpAny_bind (wpAny_rule (wpAny_pure ?_))
      exact hR false H' _ (hI.heap H' (s₁.setGen g .finished) h' (hI.gens H' s₁ _ io (allBare_setGen (s := s₁) (hI.lim _ _ io).2 rfl)) hk) q
theorem allG_loop (hh : A.handled = none) (hd : A.depth < recursionLimit) (hI : IoOk Io) (hR : ∀ b H' s', Io H' s' → Q (.bl b) H' → R (.ok (.ret (.bool b))) s') :
    ∀ (n : Nat) (s : Shared), s.heap.IsGen a g → s.heap.NoLimit → (∃ gs, s.gens[g]? = some gs ∧ gs.Goes (model P w) A.in1.in1 (GenR false Q Io) (GenV false Q Io a g) n (.send .none) (s.setGen g .running)) →
      codeAny (model P w) A (.builtin "all.loop" ⟨[.ref a], []⟩) R s := by
  intro n
  induction n with
  | zero =>
    intro s hg hl ⟨gs, hgs, hgo⟩
    refine codeAny_builtin F.entry_all_loop ?_
    rw [Around.under_plainId F.plain_all_loop _]
    show wpAny _ A.in1 (pyNext (.ref a) >>= _) _ _ s
    refine wpAny_bind (next_genG (A := A.in1) (Y := GenV false Q Io a g) hh hl hd hg hgs hgo (fun v s₁ gs' hbare hv => ?_) (fun s₁ hp h' hk => ?_) fun e s₁ he => he.elim)
    · obtain ⟨H', b, rfl, io, hg1, qt, qf⟩ := hv
      cases b with
      | true => exact False.elim (qf (by decide) s₁.gens (hI.lim _ _ io).2)
      | false =>
        refine wpAny_bind (wpAny_holding (wpAny_truthy_bool ?_))
        refine wpAny_bind (wpAny_letGo ?_)
        simp only [Bool.false_eq_true, if_false]
        refine wpAny_bind (wpAny_rule (wpAny_pure ?_))
        exact hR false H' _ (hI.gens H' s₁ _ io (allBare_setGen (s := s₁) (hI.lim _ _ io).2 hbare)) (qt rfl)
    · obtain ⟨H', io, q⟩ := hp
      refine wpAny_bind (wpAny_rule (wpAny_pure ?_))
      exact hR true H' _ (hI.heap H' (s₁.setGen g .finished) h' (hI.gens H' s₁ _ io (allBare_setGen (s := s₁) (hI.lim _ _ io).2 rfl)) hk) q
  | succ n ih =>
    intro s hg hl ⟨gs, hgs, hgo⟩
    have hgl : g < s.gens.size := (Array.getElem?_eq_some_iff.mp hgs).1
    refine codeAny_builtin F.entry_all_loop ?_
    rw [Around.under_plainId F.plain_all_loop _]
    show wpAny _ A.in1 (pyNext (.ref a) >>= _) _ _ s
    refine wpAny_bind (wpAny_gsz (n := g + 1) hgl (next_genG (A := A.in1) (Y := GenV false Q Io a g) hh hl hd hg hgs hgo (fun v s₁ gs' hbare hv => ?_) (fun s₁ hp h' hk => ?_) fun e s₁ he => he.elim))
    · intro hsz
      obtain ⟨H', b, rfl, io, hg1, qt, qf⟩ := hv
      have hsz1 : g < s₁.gens.size := by
        have q : (s₁.setGen g gs').gens.size = s₁.gens.size := setGen_size _ _ _
        have hsz' : g + 1 ≤ (s₁.setGen g gs').gens.size := hsz
        omega
      have ab := allBare_setGen (s := s₁) (g := g) (hI.lim _ _ io).2 hbare
      refine wpAny_bind (wpAny_holding (wpAny_truthy_bool ?_))
      refine wpAny_bind (wpAny_letGo ?_)
      cases b with
      | true =>
        simp only [if_true]
        refine wpAny_pure ⟨plainId_quiet F.plain_all_loop _, ih (s₁.setGen g gs') hg1 (hI.lim _ _ io).1 ⟨gs', setGen_at hsz1, ?_⟩⟩
        exact qf (by decide) _ (allBare_setGen (s := s₁.setGen g gs') (g := g) ab rfl)
      | false =>
        simp only [Bool.false_eq_true, if_false]
        refine wpAny_bind (wpAny_rule (wpAny_pure ?_))
        exact hR false H' _ (hI.gens H' s₁ _ io ab) (qt rfl)
    · intro hsz
      obtain ⟨H', io, q⟩ := hp
      refine wpAny_bind (wpAny_rule (wpAny_pure ?_))
      exact hR true H' _ (hI.heap H' (s₁.setGen g .finished) h' (hI.gens H' s₁ _ io (allBare_setGen (s := s₁) (hI.lim _ _ io).2 rfl)) hk) q
end
section
variable {X : Cx} {pins : List (Addr × Obj)} {σ : L2.St} {H : Hp} {s : Shared}
theorem Inv.regens {g' : Array GenState} (I : Inv X pins σ H s) (h : AllBare g') : Inv X pins σ H { s with gens := g' } := ⟨I.ok, I.os, h, I.base, I.loc, I.cell, I.free, I.freeC, I.pin, I.hok, I.len⟩
theorem ioOk_inv : IoOk fun H' s' => Inv X pins σ H' s' := ⟨fun _ _ _ I h => Inv.regens I h, fun _ _ _ I k => I.kept k, fun _ _ I => ⟨I.nolimit, I.bare⟩⟩
/-- the generator is made, ready to be walked -/
def GenMade (X : Cx) (pins : List (Addr × Obj)) (σ : L2.St) (k : Bool) (Q : VK) (u : Value) (s' : Shared) : Prop := ∃ (a : Addr) (ga n : Nat) (gs : GenState), u = Value.ref a ∧ s'.heap.IsGen a ga ∧ s'.heap.NoLimit ∧ s'.gens[ga]? = some gs ∧
      gs.Goes (model X.prog X.w) X.A.in1.in1 (GenR k Q fun H' s' => Inv X pins σ H' s') (GenV k Q (fun H' s' => Inv X pins σ H' s') a ga) n (.send .none) (s'.setGen ga .running)
theorem gen_eval {c P : Addr} {k : Bool} {kk : Nat} {Q : VK} {elt tg iter : Expr} {ifs : List Expr} {scope : Scope} {own : List (Str × Nat)} {gpos : Pos} {wi : TI} {g : TG} {tt : TT} {te : TE}
    (hc : X.calm = true) (hN : X.N.Nodup) (hr : Room (kk + 1) X.A) (TB : GxR.TabB X.base X.mg c P) (hcode : X.env.code = .ref c) (ok : GenOk X.N X.env.scope scope own) (hi : PI X tg iter wi)
    (hg : ∀ (A : Around) (s : Shared) (H : Hp) (C : Addr) (code : Value) (fp : List Addr), Room kk A → PG (genCx X A s H (gEnv X scope C code) fp) tg g)
    (ht : ∀ (A : Around) (s : Shared) (H : Hp) (C : Addr) (code : Value) (fp : List Addr), Room kk A → PTs (genCx X A s H (gEnv X scope C code) fp) ifs tt)
    (he : ∀ (A : Around) (s : Shared) (H : Hp) (C : Addr) (code : Value) (fp : List Addr), Room kk A → PE (genCx X A s H (gEnv X scope C code) fp) elt te)
    (hs : ∀ x, genFold iter X.env x = pure x) (I : Inv X pins σ H s) (h : tGen P k wi g tt te (own.map (·.2)) σ H Q) :
    wpAny (model X.prog X.w) X.A (eval (.GeneratorExp elt [⟨tg, iter, ifs, 0⟩] scope gpos) X.env) (GenMade X pins σ k Q) X.xe s := by
  have hd : X.A.depth < recursionLimit := by have := hr.dp; omega
  refine wpAny_GeneratorExp_make ok.co (closure_ok (ok.has I.ok)) ok.cell ok.dot ok.kind hd (thn (hi.run pins s σ H _ I h) fun xv s1 hx => thn hx fun itv s2 h2 => ?_) hs
  obtain ⟨it, fp, tn, J, H2, e, I2, T, st2, f2, ⟨ps, hP, htr⟩, q⟩ := h2
  subst e
  refine ⟨I2.nolimit, ?_⟩
  have hPs : s2.heap.get? P = some { cls := .none, data := .fields ps } := I2.hok P _ hP
  have cd : PySem.W.CodeHd s2.heap c P := TB.code.keeps I2.bk
  have nP : ∀ b ∈ fp, b ≠ P := fun b hb z => by
    have := (f2 b hb).1
    rw [z, hP] at this
    cases this
  have cont : ∀ (code : Value) (h3 : Heap) (tk : Nat) (more : Array Value), Heap.ExtBut P s2.heap h3 → s2.heap.objs.size ≤ h3.objs.size → h3.get? P = some { cls := .none, data := .fields (ps ++ more) } → TriplesOk (ps ++ more).toList →
      wpAny (model X.prog X.w) X.A (builtinsFor X.env.globals X.env.builtins) (fun bi s₄ =>
        ∀ h', h'.Ns s₄.heap.objs.size (fun y => if y = ".0" then some (.ref it) else none) → Heap.SameBut s₄.heap.objs.size (s₄.heap.push { cls := .type "frame", data := .dict #[] }) h' →
          (GenMade X pins σ k Q) (.ref h'.objs.size) { s₄ with
            gens := s₄.gens.push (.fresh (.compStart (.GeneratorExp elt [⟨tg, iter, ifs, 0⟩] scope gpos) 0 (.ref it) .none (genEnv scope (cloFrom X.env.cells scope.names []) s₄.heap.objs.size code bi X.env))),
            toks := s₄.toks + 1 + 1 + 1,
            heap := h'.push { cls := .type "generator", data := .fields #[.int s₄.gens.size 0, .str "<genexpr>" (s₄.toks + 1), .str (X.env.qual ++ "<genexpr>") (s₄.toks + 1 + 1)] } }) X.xe { s2 with heap := h3, toks := tk } := by
    intro code h3 tk more hx hge hP3 htr3
    obtain ⟨bm, ob, e1, e2, e3, e4, e5, e6, e7, e8⟩ := TB.bm
    have keep3 : ∀ b u, b ≠ P → s2.heap.get? b = some u → h3.get? b = some u := fun b u hb e => hx b u hb e
    refine wpAny_builtinsFor (m := X.mg) (by rw [I2.ok.glob]; exact (I2.mod.glob.keeps I2.bk).extBut hx TB.gP) e1 e2 (keep3 _ _ e4 (I2.bk _ _ e5)) e6 e7 e8 ?_
    have I4 : Inv X pins σ (upd H2 P (.tbl (ps ++ more))) { s2 with heap := h3, toks := tk } := GxR.inv_tab (more := more) (h' := h3) (g' := s2.gens) (d' := s2.drawn) (t' := tk) I2 hP (fun b u hb e => keep3 b u hb e) hP3 I2.bare
    obtain ⟨W, ⟨m0, w0⟩, turn⟩ := q (upd H2 P (.tbl (ps ++ more))) ⟨⟨_, upd_same, htr3⟩, fun b hb => upd_ne hb⟩
    generalize hH4 : upd H2 P (.tbl (ps ++ more)) = H4 at I4 w0
    generalize hs4 : ({ s2 with heap := h3, toks := tk } : Shared) = s4 at I4 ⊢
    have hh4 : s4.heap = h3 := by rw [← hs4]
    intro h' hn' hsb
    have sz' : h'.objs.size = s4.heap.objs.size + 1 := by rw [hsb.1, Heap.size_push]
    have kp' : ∀ b o, s4.heap.get? b = some o → h'.get? b = some o := fun b o e => hsb.extBut b o (Nat.ne_of_lt (Heap.lt_size e)) (Heap.get?_push_of_some _ e)
    have f4 : ∀ b ∈ fp, FpOk X pins H4 b ∧ b < s4.heap.objs.size := fun b hb => by
      obtain ⟨o, e, _⟩ := T.obj _ _ st2 b hb
      refine ⟨⟨?_, (f2 b hb).2⟩, ?_⟩
      · rw [← hH4, upd_ne (nP b hb)]
        exact (f2 b hb).1
      · rw [hh4]
        exact Nat.lt_of_lt_of_le (Heap.lt_size e) hge
    have st4 : tn 0 s4.heap := T.keep _ _ _ st2 fun b hb o e => by rw [hh4]; exact keep3 b o (nP b hb) e
    have hF : (gA X.A.in1.in1 elt tg iter ifs scope gpos it (gEnv X scope s4.heap.objs.size code)).frames = some (gEnv X scope s4.heap.objs.size code :: X.stack) := over_frames I4.ok.frames
    have hA : (gA X.A.in1.in1 elt tg iter ifs scope gpos it (gEnv X scope s4.heap.objs.size code)).handled = none := hr.hd
    have hRm : Room kk (gA X.A.in1.in1 elt tg iter ifs scope gpos it (gEnv X scope s4.heap.objs.size code)) := ⟨hA, by
      have h1 : (gA X.A.in1.in1 elt tg iter ifs scope gpos it (gEnv X scope s4.heap.objs.size code)).depth ≤ X.A.depth + 1 := Nat.le_of_eq rfl
      have h2 : X.A.depth + 3 * (kk + 1) + 5 < recursionLimit := hr.dp
      refine Nat.lt_of_le_of_lt (Nat.add_le_add_right (Nat.add_le_add_right h1 (3 * kk)) 5) ?_
      show X.A.depth + 1 + 3 * kk + 5 < recursionLimit
      omega, by
      have h1 : (gA X.A.in1.in1 elt tg iter ifs scope gpos it (gEnv X scope s4.heap.objs.size code)).units ≤ X.A.units + 5 := Nat.le_of_eq rfl
      have h2 : X.A.units + 16 * (kk + 1) + 200 < cLine := hr.un
      refine Nat.lt_of_le_of_lt (Nat.add_le_add_right (Nat.add_le_add_right h1 (16 * kk)) 200) ?_
      show X.A.units + 5 + 16 * kk + 200 < cLine
      omega⟩
    generalize hgs : (GenState.fresh (.compStart (.GeneratorExp elt [⟨tg, iter, ifs, 0⟩] scope gpos) 0 (.ref it) .none (genEnv scope (cloFrom X.env.cells scope.names []) s4.heap.objs.size code builtinsNs X.env))) = gs
    have ab : AllBare (s4.gens.push gs) := I4.bare.push (by rw [← hgs]; rfl)
    have I5 := gen_start (g' := s4.gens.push gs) (t' := s4.toks + 1 + 1 + 1) (h' := h') I4 ok hN f4 hA hF hn' kp' ab
    have nH : H4 h'.objs.size = none := I4.hok.fresh (by rw [sz']; exact Nat.le_succ _)
    have fa := I5.fpOk (b := h'.objs.size) (Nat.le_refl _) nH
    generalize hgo : ({ cls := .type "generator", data := .fields #[.int s4.gens.size 0, .str "<genexpr>" (s4.toks + 1), .str (X.env.qual ++ "<genexpr>") (s4.toks + 1 + 1)] } : Obj) = go
    have I6 := I5.kept (t' := s4.toks + 1 + 1 + 1) (h' := h'.push go) (fun b o e => Heap.get?_push_of_some _ e)
    have hag : (h'.push go).get? h'.objs.size = some go := Heap.get?_push_size _ (by rw [← hgo]; rfl)
    have I7 := I6.pinned (fp := [h'.objs.size]) (fun b hb => by rw [List.mem_singleton.mp hb]; exact fa) (fun b hb => ⟨go, by rw [List.mem_singleton.mp hb]; exact hag, fun v z => by rw [← hgo] at z; cases z⟩)
    rw [List.nil_append] at I7
    have isg : (h'.push go).IsGen h'.objs.size s4.gens.size := ⟨go, _, _, hag, by rw [← hgo], by rw [← hgo], by rw [← hgo]⟩
    refine ⟨h'.objs.size, s4.gens.size, m0 + 1, gs, rfl, isg, I6.nolimit, Array.getElem?_push_size .., ?_⟩
    have st7 : tn 0 (h'.push go) := T.keep _ _ _ st4 fun b _ o e => Heap.get?_push_of_some _ (kp' b o e)
    have seg := seg_gen (k := k) (Q := Q) (W := W) (J := J) (A := X.A.in1.in1) (a := h'.objs.size) (ga := s4.gens.size) (code := code) (ho := h'.push go) (it := it) (fp := fp) (tn := tn) (pos := gpos) hc hr.hd ok T I4 (fun b hb => (f4 b hb).1) isg (fun b hb z => by
        have := (f4 b hb).2
        rw [z, sz'] at this
        exact Nat.lt_irrefl _ (Nat.lt_trans (Nat.lt_succ_self _) this)) (hg _ _ _ _ _ _ hRm) (ht _ _ _ _ _ _ hRm) (he _ _ _ _ _ _ hRm) turn m0 0 (m0 + 1)
    rw [← hgs]
    refine ⟨rfl, ?_⟩
    have loop : ∀ s₀ : Shared, Seg (model X.prog X.w) X.A.in1.in1 (GenR k Q fun H' s' => Inv X pins σ H' s') (GenV k Q (fun H' s' => Inv X pins σ H' s') h'.objs.size s4.gens.size) (m0 + 1) s₀ (.compLoop (.GeneratorExp elt [⟨tg, iter, ifs, 0⟩] scope gpos) 0 (.ref it) .none (gEnv X scope s4.heap.objs.size code))
        ((model X.prog X.w).den (.compLoop (.GeneratorExp elt [⟨tg, iter, ifs, 0⟩] scope gpos) 0 (.ref it) .none (gEnv X scope s4.heap.objs.size code))) [] (({ s4 with gens := s4.gens.push gs, toks := s4.toks + 1 + 1 + 1, heap := h'.push go } : Shared).setGen s4.gens.size .running) := fun s₀ =>
      seg s₀ _ H4 w0 (Nat.lt_succ_self _) (Inv.regens I7 (allBare_setGen (s := ({ s4 with gens := s4.gens.push gs, toks := s4.toks + 1 + 1 + 1, heap := h'.push go } : Shared)) ab rfl)) st7 fun b hb => (f4 b hb).1.1
    rw [← hgs] at loop
    have st8 : tn 0 (({ s4 with gens := s4.gens.push (GenState.fresh (.compStart (.GeneratorExp elt [⟨tg, iter, ifs, 0⟩] scope gpos) 0 (.ref it) .none (genEnv scope (cloFrom X.env.cells scope.names []) s4.heap.objs.size code builtinsNs X.env))), toks := s4.toks + 1 + 1 + 1, heap := h'.push go } : Shared).setGen s4.gens.size .running).heap := st7
    generalize (({ s4 with gens := s4.gens.push (GenState.fresh (.compStart (.GeneratorExp elt [⟨tg, iter, ifs, 0⟩] scope gpos) 0 (.ref it) .none (genEnv scope (cloFrom X.env.cells scope.names []) s4.heap.objs.size code builtinsNs X.env))), toks := s4.toks + 1 + 1 + 1, heap := h'.push go } : Shared).setGen s4.gens.size .running) = s8 at loop st8 ⊢
    show Seg _ X.A.in1.in1 _ _ _ _ _ ((compStart (.GeneratorExp elt [⟨tg, iter, ifs, 0⟩] scope gpos) 0 (.ref it) .none (gEnv X scope s4.heap.objs.size code)).onRaise (leaving (gEnv X scope s4.heap.objs.size code))) [] _
    unfold compStart
    rw [Sem.onRaise_eq_wrap]
    show Seg _ _ _ _ _ _ _ ((ask >>= _).wrap _ _ _ _) [] _
    refine seg_bind_wrap (wpAny_askSetting ?_)
    split
    · exact seg_again rfl (loop _)
    · refine seg_bind_wrap (wpAny_rule ?_)
      show Seg _ _ _ _ _ _ _ ((standAt iter.pos >>= _).wrap _ _ _ _) [] _
      exact seg_bind_wrap (wpAny_standAt (seg_bind_wrap (T.self _ 0 _ _ _ st8 (seg_again rfl (loop _)))))
  cases hf : codeAmong gpos ps.toList with
  | none =>
    refine wpAny_genexprCodeX hcode (cd.code hPs htr) (cd.tab hPs) hf fun c' h' tk hx hge hlt hco' _ htab' _ => ?_
    obtain ⟨o1, vs, f1, tf, fl, tg, inF, tx, tt, op, _, _, _, _, _, _, _, _, _, htr', _⟩ := hco'
    exact cont _ h' tk _ hx (Nat.le_trans hge (Nat.le_of_lt hlt)) htab'.2 htr'
  | some cv =>
    refine wpAny_genexprCode_hit hcode (cd.code hPs htr) hf ?_
    have := cont cv s2.heap s2.toks #[] (Heap.ExtBut.refl _ _) (Nat.le_refl _) (by rw [Array.append_empty]; exact hPs) (by rw [Array.append_empty]; exact htr)
    exact this
end
section
variable {X : Cx}
theorem pe_anyG {c P : Addr} {kk : Nat} {elt tg iter : Expr} {ifs : List Expr} {scope : Scope} {own : List (Str × Nat)} {gpos p pos : Pos} {wi : TI} {g : TG} {tt : TT} {te : TE}
    (hc : X.calm = true) (hN : X.N.Nodup) (hr : Room (kk + 1) X.A) (hgl : Gl X "any") (hm : X.mg "any" = none) (TB : GxR.TabB X.base X.mg c P) (hcode : X.env.code = .ref c) (ok : GenOk X.N X.env.scope scope own) (hi : PI X tg iter wi)
    (hg : ∀ (A : Around) (s : Shared) (H : Hp) (C : Addr) (code : Value) (fp : List Addr), Room kk A → PG (genCx X A s H (gEnv X scope C code) fp) tg g)
    (ht : ∀ (A : Around) (s : Shared) (H : Hp) (C : Addr) (code : Value) (fp : List Addr), Room kk A → PTs (genCx X A s H (gEnv X scope C code) fp) ifs tt)
    (he : ∀ (A : Around) (s : Shared) (H : Hp) (C : Addr) (code : Value) (fp : List Addr), Room kk A → PE (genCx X A s H (gEnv X scope C code) fp) elt te)
    (hs : ∀ x, genFold iter X.env x = pure x)
    (hst : starEach [.GeneratorExp elt [⟨tg, iter, ifs, 0⟩] scope gpos] X.env = (false, eval (.GeneratorExp elt [⟨tg, iter, ifs, 0⟩] scope gpos) X.env) :: starEach [] X.env) :
    PE X (.Call (.Name "any" p) [.GeneratorExp elt [⟨tg, iter, ifs, 0⟩] scope gpos] [] pos) (tGen P true wi g tt te (own.map (·.2))) := by
  refine ⟨fun pins s σ H Q I h => ?_⟩
  refine wpAny_Call_Name_kw (ld_blt I hgl hm boot_any ?_)
  refine PyProof.Rows.callWith_builtin1 ?_ hst (by rfl)
  rw [hst]
  show wpAny _ _ (spliced ((false, eval (.GeneratorExp elt [⟨tg, iter, ifs, 0⟩] scope gpos) X.env) :: backTo pos (starEach [] X.env))) _ _ s
  refine Calls.spliced_cons (thn (gen_eval hc hN hr TB hcode ok hi hg ht he hs I h) fun u s5 hG => ?_)
  obtain ⟨a, ga, n, gs, rfl, isg, lim, hgs, goes⟩ := hG
  refine Calls.spliced_nil ?_
  refine call_function_tree F.kind_any F.plain_any F.entry_any (F.args_any1 _) ?_
  unfold Builtin.«any»
  refine wpAny_bind (m := oneArg "any" _) (wpAny_pure ?_)
  refine wpAny_bind (wpAny_pyIter_gen isg ?_)
  exact wpAny_pure ⟨plainId_quiet F.plain_any_loop _, anyG_loop (Io := fun H' s' => Inv X pins σ H' s') hr.hd (by have := hr.dp; omega) ioOk_inv (fun b H' s' I' q => ⟨.bl b, H', I', rfl, q⟩) n s5 isg lim ⟨gs, hgs, goes⟩⟩
theorem pe_allG {c P : Addr} {kk : Nat} {elt tg iter : Expr} {ifs : List Expr} {scope : Scope} {own : List (Str × Nat)} {gpos p pos : Pos} {wi : TI} {g : TG} {tt : TT} {te : TE}
    (hc : X.calm = true) (hN : X.N.Nodup) (hr : Room (kk + 1) X.A) (hgl : Gl X "all") (hm : X.mg "all" = none) (TB : GxR.TabB X.base X.mg c P) (hcode : X.env.code = .ref c) (ok : GenOk X.N X.env.scope scope own) (hi : PI X tg iter wi)
    (hg : ∀ (A : Around) (s : Shared) (H : Hp) (C : Addr) (code : Value) (fp : List Addr), Room kk A → PG (genCx X A s H (gEnv X scope C code) fp) tg g)
    (ht : ∀ (A : Around) (s : Shared) (H : Hp) (C : Addr) (code : Value) (fp : List Addr), Room kk A → PTs (genCx X A s H (gEnv X scope C code) fp) ifs tt)
    (he : ∀ (A : Around) (s : Shared) (H : Hp) (C : Addr) (code : Value) (fp : List Addr), Room kk A → PE (genCx X A s H (gEnv X scope C code) fp) elt te)
    (hs : ∀ x, genFold iter X.env x = pure x)
    (hst : starEach [.GeneratorExp elt [⟨tg, iter, ifs, 0⟩] scope gpos] X.env = (false, eval (.GeneratorExp elt [⟨tg, iter, ifs, 0⟩] scope gpos) X.env) :: starEach [] X.env) :
    PE X (.Call (.Name "all" p) [.GeneratorExp elt [⟨tg, iter, ifs, 0⟩] scope gpos] [] pos) (tGen P false wi g tt te (own.map (·.2))) := by
  refine ⟨fun pins s σ H Q I h => ?_⟩
  refine wpAny_Call_Name_kw (ld_blt I hgl hm boot_all ?_)
  refine PyProof.Rows.callWith_builtin1 ?_ hst (by rfl)
  rw [hst]
  show wpAny _ _ (spliced ((false, eval (.GeneratorExp elt [⟨tg, iter, ifs, 0⟩] scope gpos) X.env) :: backTo pos (starEach [] X.env))) _ _ s
  refine Calls.spliced_cons (thn (gen_eval hc hN hr TB hcode ok hi hg ht he hs I h) fun u s5 hG => ?_)
  obtain ⟨a, ga, n, gs, rfl, isg, lim, hgs, goes⟩ := hG
  refine Calls.spliced_nil ?_
  refine call_function_tree F.kind_all F.plain_all F.entry_all (F.args_all1 _) ?_
  unfold Builtin.«all»
  refine wpAny_bind (m := oneArg "all" _) (wpAny_pure ?_)
  refine wpAny_bind (wpAny_pyIter_gen isg ?_)
  exact wpAny_pure ⟨plainId_quiet F.plain_all_loop _, allG_loop (Io := fun H' s' => Inv X pins σ H' s') hr.hd (by have := hr.dp; omega) ioOk_inv (fun b H' s' I' q => ⟨.bl b, H', I', rfl, q⟩) n s5 isg lim ⟨gs, hgs, goes⟩⟩
end
end G

/-! The data layer: any, all of a generator expression. -/
namespace G
open PySem PySem.Spec PyProof.Rows L2
/-- the bodies of a generator expression -/
def Fam.gen {S : Type} (f : Fam S) (k : Nat) (scope : Scope) : Fam S where
  ι := f.ι × {A : Around // Room k A} × Shared × Hp × Addr × Value × List Addr
  X := fun p => genCx (f.X p.1) p.2.1.1 p.2.2.1 p.2.2.2.1 (gEnv (f.X p.1) scope p.2.2.2.2.1 p.2.2.2.2.2.1) p.2.2.2.2.2.2
  K := f.K
  N := f.N
  k := k
  A := f.A
  sv := f.sv
  hK := fun p => f.hK p.1
  hN := fun p => f.hN p.1
  nd := f.nd
  room := fun p => p.2.1.2
  calm := fun p => f.calm p.1
section
variable {S : Type} {f : Fam S} {own : List Nat}
/-- stops at k: any at true, all at false -/
def anyGo (k : Bool) (tg : GM) (tt : TM S) (te : EM S) (ρ : Slots) : List D → S → Option (Bool × S)
  | [], s => some (!k, s)
  | d :: ds, s => (tg d ρ).bind fun ρ1 => bnd (tt ρ1 s) fun b s1 => if b = true then bnd (te ρ1 s1) fun y s2 => (match y with
      | .bool c => if c = k then some (k, s2) else anyGo k tg tt te ρ ds s2
      | _ => none) else anyGo k tg tt te ρ ds s1
def eAny (k : Bool) (src : LM S) (vs : List Nat) (tg : GM) (tt : TM S) (te : EM S) : EM S := fun ρ s => bnd (src ρ s) fun ds s1 => bnd (anyGo k tg tt te (wipeS ρ vs) ds s1) fun b s2 => some (.bool b, s2)
theorem de_any {P : Addr} {k : Bool} {wi : TI} {g : TG} {tt : TT} {te : TE} {vs ix : List Nat} {ms : LM S} {mg : GM} {mt : TM S} {me : EM S}
    (hw : ∀ F0 H0 F H ρ s σ, Stt f.K f.A f.sv own F0 H0 F H ρ s σ → ∀ ds s', ms ρ s = some (ds, s') → ∀ R : It → Hp → Prop, (∀ F' H' J, Ext f.A.ex F H F' H' → f.A.rel s' H' → Src f.K F' J ds → R J H') → wi σ H R)
    (hg : ∀ F0 H0 F H ρ s σ, Stt f.K f.A f.sv own F0 H0 F H ρ s σ → ∀ v d, Rp f.K F v d → ∀ ρ', mg d ρ = some ρ' → ∀ Q : L2.St → Hp → Prop, (∀ σ', Stt f.K f.A f.sv own F0 H0 F H ρ' s σ' → Ag ix σ σ' → Q σ' H) → g v σ H Q)
    (ht : DT f own tt mt) (he : DE f own te me) (hix : ∀ i ∈ ix, i ∈ vs) (hsv : ∀ j, f.sv = some j → j ∉ vs) (hP : P ∈ f.A.tb) :
    DE f own (tGen P k wi g tt te vs) (eAny k ms vs mg mt me) := by
  intro F0 H0 F H ρ s σ st d s' e Q q
  obtain ⟨ds, s1, e1, e⟩ := bnd_some e
  obtain ⟨br, s2, e2, e⟩ := bnd_some e
  cases e
  refine hw _ _ _ _ _ _ _ st ds s1 e1 _ fun F1 H1 J E1 r1 src => ⟨f.A.tabs _ _ r1 P hP, fun H2 hT => ?_⟩
  have st1 := st.next E1 r1
  have hPx := f.A.sub P hP
  have Eh : Ext f.A.ex F1 H1 F1 H2 := by
    refine ⟨Same.refl _, fun b o nb e => ?_, fun b n => ?_, fun b o e => ?_, fun b e n => absurd e n⟩
    · rw [hT.2 b (fun z => nb (z ▸ hPx))]; exact e
    · by_cases z : b = P
      · obtain ⟨ps, e, _⟩ := hT.1
        rw [z, e]; exact Option.some_ne_none _
      · rw [hT.2 b z]; exact n
    · rw [hT.2 b (fun z => by
        rw [z, st1.exF P hPx] at e
        cases e)]
      exact st1.sub _ _ e
  have r2 : f.A.rel s1 H2 := f.A.mix _ _ _ r1 (fun b hb nb o e => by rw [hT.2 b (fun z => nb (z ▸ hP))]; exact e) fun b hb => by
    by_cases z : b = P
    · rw [z]; exact hT.1
    · obtain ⟨ps, e, t⟩ := f.A.tabs _ _ r1 b hb
      exact ⟨ps, by rw [hT.2 b z]; exact e, t⟩
  have st2 := st1.next Eh r2
  refine ⟨fun i m H' => m = ds.length - i ∧ i ≤ ds.length ∧ ∃ F' u', Stt f.K f.A f.sv own F0 H0 F' H' (wipeS ρ vs) u' (wipe σ vs) ∧ Ext f.A.ex F1 H1 F' H' ∧ anyGo k mg mt me (wipeS ρ vs) (ds.drop i) u' = some (br, s'),
    ⟨_, rfl, Nat.zero_le _, F1, s1, st2.wipe vs hsv, Eh, e2⟩, ?_⟩
  rintro i m H' ⟨rfl, hi, F', u', stw, E, hgo⟩
  obtain ⟨go, stop⟩ := src F' H' E.sF stw.sub i
  by_cases hlt : i < ds.length
  · have hgd : ds[i]? = some ds[i] := List.getElem?_eq_getElem hlt
    obtain ⟨g1, g2⟩ := go _ hgd
    rw [List.drop_eq_getElem_cons hlt] at hgo
    unfold anyGo at hgo
    obtain ⟨ρ1, k1, hgo⟩ := bind_some hgo
    obtain ⟨b, s3, k2, hgo⟩ := bnd_some hgo
    refine .inr ⟨g1, fun H'' => i + 1 ≤ ds.length ∧ ∃ F' u', Stt f.K f.A f.sv own F0 H0 F' H'' (wipeS ρ vs) u' (wipe σ vs) ∧ Ext f.A.ex F1 H1 F' H'' ∧ anyGo k mg mt me (wipeS ρ vs) (ds.drop (i + 1)) u' = some (br, s'),
      fun H'' w => ⟨_, by omega, rfl, w⟩, fun x H2 y => ?_⟩
    obtain ⟨F2, E2, r2⟩ := g2 x H2 y
    have st2 := stw.next E2.weak (f.A.ext stw.rel E2)
    refine hg _ _ _ _ _ _ _ st2 x _ r2 ρ1 k1 _ fun σ2 st3 ag => ⟨wipe_ag ag hix, ?_⟩
    have back : ∀ {F' H' : Hp} {s' : S}, Ext f.A.ex F2 H2 F' H' → f.A.rel s' H' → Stt f.K f.A f.sv own F0 H0 F' H' (wipeS ρ vs) s' (wipe σ vs) := fun {F' H' s'} X r => st2.next X r
    refine ht _ _ _ _ _ _ _ st3 b s3 k2 _ fun F3 H3 E3 r3 => ?_
    cases b with
    | false =>
      rw [if_neg Bool.false_ne_true] at hgo
      exact iteF ⟨hlt, F3, s3, back E3 r3, (E.trans E2.weak).trans E3, hgo⟩
    | true =>
      rw [if_pos rfl] at hgo
      obtain ⟨yd, s4, k3, hgo⟩ := bnd_some hgo
      refine iteT ?_
      refine he _ _ _ _ _ _ _ (st3.next E3 r3) yd s4 k3 _ fun F4 H4 yv E4 r4 p4 => ?_
      have X := ((E.trans E2.weak).trans E3).trans E4
      cases p4 with
      | bl c =>
        refine ⟨c, rfl, fun hc => ?_, fun hc => ?_⟩
        · simp only [if_pos hc] at hgo
          cases hgo
          exact q F4 H4 (.bl k) (E1.trans X) r4 (.bl k)
        · simp only [if_neg hc] at hgo
          exact ⟨hlt, F4, s4, back (E3.trans E4) r4, X, hgo⟩
      | non => cases hgo
      | int i => cases hgo
      | str x => cases hgo
      | lst _ _ => cases hgo
      | tup _ _ => cases hgo
  · have hi' : i = ds.length := by omega
    refine .inl ⟨stop hi', ?_⟩
    subst hi'
    rw [List.drop_length] at hgo
    cases hgo
    exact q F' H' (.bl (!k)) (E1.trans E) stw.rel (.bl _)
theorem we_anyG {c P : Addr} (kk : Nat) {elt tg iter : Expr} {ifs : List Expr} {scope : Scope} {ownL : List (Str × Nat)} {ix : List Nat} {gpos p pos : Pos} {ms : LM S} {mg : GM} {mt : TM S} {me : EM S} (hi : WI f own tg iter ms)
    (hg : WG (f.gen kk scope) own ix tg mg) (ht : WTs (f.gen kk scope) own ifs mt) (he : WE (f.gen kk scope) own elt me) (hm : ∀ i, (f.X i).mg "any" = none) (TB : ∀ i, GxR.TabB (f.X i).base (f.X i).mg c P) (hP : P ∈ f.A.tb)
    (ok : ∀ i, GenOk (f.X i).N (f.X i).env.scope scope ownL) (hcode : ∀ i, (f.X i).env.code = .ref c := by intro _; rfl) (hk : Nat.ble (kk + 1) f.k = true := by rfl) (hix : ∀ i ∈ ix, i ∈ ownL.map (·.2) := by decide) (hsv : (ownL.map (·.2)).all (svNe f.sv) = true := by rfl)
    (hgl : ∀ i, Gl (f.X i) "any" := by intro _; rfl) (hs : ∀ i, ∀ x, genFold iter (f.X i).env x = pure x := by intro _ _; rfl)
    (hst : ∀ i, starEach [.GeneratorExp elt [⟨tg, iter, ifs, 0⟩] scope gpos] (f.X i).env = (false, eval (.GeneratorExp elt [⟨tg, iter, ifs, 0⟩] scope gpos) (f.X i).env) :: starEach [] (f.X i).env := by intro _; rfl) :
    WE f own (.Call (.Name "any" p) [.GeneratorExp elt [⟨tg, iter, ifs, 0⟩] scope gpos] [] pos) (eAny true ms (ownL.map (·.2)) mg mt me) := by
  obtain ⟨wi, pi, di⟩ := hi.ex
  obtain ⟨tg, pg, dg⟩ := hg.ex
  obtain ⟨tt, pt, dt⟩ := ht.ex
  obtain ⟨te, pe, de⟩ := he.ex
  exact ⟨_, fun i => pe_anyG (kk := kk) (f.calm i) (by rw [f.hN]; exact f.nd) ((f.room i).mono (Nat.le_of_ble_eq_true hk)) (hgl i) (hm i) (TB i) (hcode i) (ok i) (pi i) (fun A s H C code fp hr => pg (i, ⟨A, hr⟩, s, H, C, code, fp)) (fun A s H C code fp hr => pt (i, ⟨A, hr⟩, s, H, C, code, fp))
      (fun A s H C code fp hr => pe (i, ⟨A, hr⟩, s, H, C, code, fp)) (hs i) (hst i),
    de_any di dg dt de hix (fun j e hj => svNe_all hsv j hj e) hP⟩
theorem we_allG {c P : Addr} (kk : Nat) {elt tg iter : Expr} {ifs : List Expr} {scope : Scope} {ownL : List (Str × Nat)} {ix : List Nat} {gpos p pos : Pos} {ms : LM S} {mg : GM} {mt : TM S} {me : EM S} (hi : WI f own tg iter ms)
    (hg : WG (f.gen kk scope) own ix tg mg) (ht : WTs (f.gen kk scope) own ifs mt) (he : WE (f.gen kk scope) own elt me) (hm : ∀ i, (f.X i).mg "all" = none) (TB : ∀ i, GxR.TabB (f.X i).base (f.X i).mg c P) (hP : P ∈ f.A.tb)
    (ok : ∀ i, GenOk (f.X i).N (f.X i).env.scope scope ownL) (hcode : ∀ i, (f.X i).env.code = .ref c := by intro _; rfl) (hk : Nat.ble (kk + 1) f.k = true := by rfl) (hix : ∀ i ∈ ix, i ∈ ownL.map (·.2) := by decide) (hsv : (ownL.map (·.2)).all (svNe f.sv) = true := by rfl)
    (hgl : ∀ i, Gl (f.X i) "all" := by intro _; rfl) (hs : ∀ i, ∀ x, genFold iter (f.X i).env x = pure x := by intro _ _; rfl)
    (hst : ∀ i, starEach [.GeneratorExp elt [⟨tg, iter, ifs, 0⟩] scope gpos] (f.X i).env = (false, eval (.GeneratorExp elt [⟨tg, iter, ifs, 0⟩] scope gpos) (f.X i).env) :: starEach [] (f.X i).env := by intro _; rfl) :
    WE f own (.Call (.Name "all" p) [.GeneratorExp elt [⟨tg, iter, ifs, 0⟩] scope gpos] [] pos) (eAny false ms (ownL.map (·.2)) mg mt me) := by
  obtain ⟨wi, pi, di⟩ := hi.ex
  obtain ⟨tg, pg, dg⟩ := hg.ex
  obtain ⟨tt, pt, dt⟩ := ht.ex
  obtain ⟨te, pe, de⟩ := he.ex
  exact ⟨_, fun i => pe_allG (kk := kk) (f.calm i) (by rw [f.hN]; exact f.nd) ((f.room i).mono (Nat.le_of_ble_eq_true hk)) (hgl i) (hm i) (TB i) (hcode i) (ok i) (pi i) (fun A s H C code fp hr => pg (i, ⟨A, hr⟩, s, H, C, code, fp)) (fun A s H C code fp hr => pt (i, ⟨A, hr⟩, s, H, C, code, fp))
      (fun A s H C code fp hr => pe (i, ⟨A, hr⟩, s, H, C, code, fp)) (hs i) (hst i),
    de_any di dg dt de hix (fun j e hj => svNe_all hsv j hj e) hP⟩
/-- a scope's check in one go -/
def genOkB (N : List Str) (sc scope : Scope) (own : List (Str × Nat)) : Bool :=
  decide (scope.kind = .function) && !scope.isCoroutine && decide (scope.names.lookup (".0" : Str) = some NameKind.local) && (scope.names.all fun y => !decide (y.2 = .cell) && decide (scope.names.lookup y.1 = some y.2) &&
    (!decide (y.2 = .free) || decide (sc.names.lookup y.1 = some .cell) || decide (sc.names.lookup y.1 = some .free)) && (!decide (y.2 = .local) || decide (y.1 ∈ own.map (·.1)) || !decide (y.1 ∈ N))) && own.all fun p => decide (N[p.2]? = some p.1)
theorem genOk_by {N : List Str} {sc scope : Scope} {own : List (Str × Nat)} (h : genOkB N sc scope own = true) : GenOk N sc scope own := by
  unfold genOkB at h
  simp only [Bool.and_eq_true, Bool.or_eq_true, Bool.not_eq_true', decide_eq_true_eq, decide_eq_false_iff_not, List.all_eq_true] at h
  obtain ⟨⟨⟨⟨h1, h2⟩, h3⟩, h4⟩, h5⟩ := h
  refine ⟨h1, h2, h3, fun y hy => (h4 y hy).1.1.1, fun y hy => (h4 y hy).1.1.2, h5, fun y hy e => ?_, fun y hy e => ?_⟩
  · rcases (h4 y hy).1.2 with (z | z) | z
    · exact absurd e z
    · exact .inl z
    · exact .inr z
  · rcases (h4 y hy).2 with (z | z) | z
    · exact absurd e z
    · exact .inl z
    · exact .inr z
end
end G

/-! The end of a law row, with the tables of the defs that hold generator expressions. -/
namespace G
open PySem PySem.Spec PyProof.Rows L2
/-- the tables of all defs are empty -/
def TabsAt (q : Program) (mg : Str → Option Value) (h : Heap) : Prop := ∀ d ∈ recsOf q, ∃ a o fd c P, mg d.name = some (.ref a) ∧ h.get? a = some o ∧ o.data = .func fd ∧ fd.code = .ref c ∧ h.IsCode c P #[] ∧ h.TableAt c P #[]
/-- no empty table among what is known -/
def noTab (K : Frag) : Bool := K.all fun p => match p.2.data with
  | .fields vs => vs.size != 0
  | _ => true
theorem mem_lk {α : Type} : ∀ {l : List (Addr × α)} {a : Addr} {o : α}, l.lookup a = some o → (a, o) ∈ l
  | [], _, _, h => by cases h
  | (b, v) :: r, a, o, h => by
    rw [List.lookup_cons] at h
    cases hb : a == b with
    | true =>
      rw [hb] at h
      cases h
      rw [beq_iff_eq.mp hb]
      exact List.mem_cons_self
    | false =>
      rw [hb] at h
      exact List.mem_cons_of_mem _ (mem_lk h)
theorem noTab_get {K : Frag} {h : Heap} (KX : K.In h) (n : noTab K = true) {P : Addr} (e : h.get? P = some { cls := .none, data := .fields #[] }) : K.lookup P = none := by
  cases q : K.lookup P with
  | none => rfl
  | some o =>
    have z := KX _ _ q
    rw [e] at z
    cases z
    have m : (P, ({ cls := .none, data := .fields #[] } : Obj)) ∈ K := mem_lk q
    have := List.all_eq_true.mp n _ m
    cases this
theorem codeTab_get {q : Program} {mg : Str → Option Value} {h : Heap} {K : Frag} {name : Str} {f : Addr} {oc : Value} {od : Option Addr} {fd : FuncData} {sl : Array (Option Value)} (T : TabsAt q mg h) (hr : ((recsOf q).any fun e => e.name == name) = true) (KX : K.In h) (hm : mg name = some (.ref f))
    (l : K.lookup f = some ⟨oc, od, .func fd, sl⟩) : ∃ c P, fd.code = .ref c ∧ h.get? P = some { cls := .none, data := .fields #[] } ∧ PySem.W.CodeHd h c P := by
  obtain ⟨d, hd, e⟩ := List.any_eq_true.mp hr
  have e : d.name = name := beq_iff_eq.mp e
  obtain ⟨a, o, fd', c, P, h1, h2, h3, h4, h5, h6⟩ := T d hd
  rw [e, hm] at h1
  cases h1
  have z := KX _ _ l
  rw [z] at h2
  cases h2
  cases h3
  exact ⟨c, P, h4, h6.2, PySem.W.CodeHd.of h5 h6⟩
theorem tabB_of {base : Heap} {mg : Str → Option Value} {c P : Addr} (h : LamX.TabB base mg c P) : GxR.TabB base mg c P := ⟨h.code, h.bm, h.gP⟩
theorem walk_tabs {l : PySem.W.OpenLaw} {n k : Nat} {q : Program} {loose : List Str} {XP : (Str → Option Value) → Heap → Prop} {YP : World → Heap → Prop} {d : DefRec} {K : Params → PySem.W.Frag} {x : Str}
    (hn : l.most = some n) (hn2 : n ≤ sizeLine) (hdf : d.params.defaults = []) (hr : Room k callerA) (hY : ∀ (w : World) (h : Heap), YP w h → (K w.params).In h)
    (F : ∀ (w : World) (mg : Str → Option Value) (fa : Addr) (h : Heap), (K w.params).In h → h.Ns mainGlobals mg → mg d.name = some (.ref fa) → TabsAt q mg h → LamX.LawAtS l w (K w.params) CX0 k n x mg fa h) :
    PySem.W.WalkO q loose XP YP l.row.toRowW d [] (fun f vs => PySem.call f vs) := by
  refine Att.attach_callB hn hdf fun w s₀ s₁ mg mb fa o pm cd doc a vs ns G Y ho hd hcd hmg hobj hints hlen hbits hg => ?_
  have KX := hY w _ Y
  obtain ⟨fd, cs, sp, hT, nT, C, hb, hsp, hF⟩ := F w mg fa _ KX G.T.g hmg G.T.tab
  exact LamX.law_callTs KX G.T.g G.T.b G.T.builtins G.T.nolimit hg hT nT C G.T.bmain hobj hints (Nat.le_trans hlen hn2) hr hF hb (fun H hH hS => hsp H a ns hlen hbits hH hS) fun H e s' h => h
end G

/-! Fresh lists by a test. -/
namespace G
open PySem PySem.Spec PyProof.Rows L2
section
variable {S : Type} {f : Fam S} {own oB oC : List Nat}
/-- a if c else b, both fresh -/
theorem wo_if {c a b : Expr} {mc : TM S} {ma mb : EM S} {pos : Pos} (hc : WT f own c mc) (ha : WO f own a ma) (hb : WO f own b mb) : WO f own (.IfExp c a b pos) (eIf mc ma mb) := by
  obtain ⟨tc, pc, dc⟩ := hc.ex
  obtain ⟨ta, pa, da⟩ := ha.ex
  obtain ⟨tb, pb, db⟩ := hb.ex
  refine ⟨_, fun i => pe_ifExp (pc i) (pa i) (pb i), ?_⟩
  intro F0 H0 F H ρ s σ st d s' e Q q
  obtain ⟨k, s1, e1, e⟩ := bnd_some e
  refine dc _ _ _ _ _ _ _ st k s1 e1 _ fun F1 H1 E1 r1 => ?_
  cases k with
  | true => exact iteT (da _ _ _ _ _ _ _ (st.next E1 r1) d s' e _ fun F2 H2 o vs ds E2 r2 ed n1 n2 g p => q F2 H2 o vs ds (E1.trans E2) r2 ed n1 (none_back E1 n2) g p)
  | false => exact iteF (db _ _ _ _ _ _ _ (st.next E1 r1) d s' e _ fun F2 H2 o vs ds E2 r2 ed n1 n2 g p => q F2 H2 o vs ds (E1.trans E2) r2 ed n1 (none_back E1 n2) g p)
/-- the slot stands -/
def sSelf (i : Nat) : SM S := fun ρ s => match ρ[i]? with
  | some (some _) => some (.nx ρ, s)
  | _ => none
/-- x = a if c else x, x owned, a fresh -/
theorem ws_setSelf {x : Str} {c a : Expr} {mc : TM S} {ma : EM S} {p1 p2 pos pos' : Pos} (i : Nat) (hc : WT f own c mc) (ha : WO f own a ma) (io : i ∈ own := by decide) (hi : f.N[i]? = some x := by rfl) (hx : ∀ j, Loc (f.X j).env.scope x := by intro _; first | exact Or.inl rfl | exact Or.inr rfl)
    (hd : (x == ("__debug__" : Str)) = false := by decide) (hcd : (x == ("__classdict__" : Str)) = false := by decide)
    (hs : ∀ j, swapsWith (.IfExp c a (.Name x p1) p2) (some (.Name x pos')) pos.line (f.X j).env = pure false := by intro _; rfl) (hf : ∀ j, (f.X j).fn x = true ∨ (f.X j).env.scope.names.lookup x = some .local := by intro _; first | exact .inl rfl | exact .inr rfl)
    (hv : svNe f.sv i = true := by rfl) : WS f own (.Assign [.Name x pos'] (.IfExp c a (.Name x p1) p2) pos) (sIf mc (sSet i ma) (sSelf i)) own oB oC := by
  obtain ⟨tc, pc, dc⟩ := hc.ex
  obtain ⟨ta, pa, da⟩ := ha.ex
  have hvis : ∀ j, Vis (f.X j).env.scope x := fun j => (hx j).elim .inl (fun z => .inr (.inl z))
  refine ⟨_, fun j => ps_set (by rw [f.hN]; exact f.nd) (by rw [f.hN]; exact hi) (hx j) (pe_ifExp (pc j) (pa j) (pe_var (i := i) (by rw [f.hN]; exact hi) (hvis j) hd hcd)) (hs j) (hf j), ?_⟩
  intro F0 H0 F H ρ s σ st r s' e De hA
  obtain ⟨k, s1, e1, e⟩ := bnd_some e
  refine dc _ _ _ _ _ _ _ st k s1 e1 _ fun F1 H1 E1 r1 => ?_
  cases k with
  | true =>
    exact iteT (ds_setO (f := f) (own := own) (own' := own) (i := i) (oB := oB) (oC := oC) da (svNe_ok hv) (fun j hj => by
      by_cases z : j = i
      · exact .inl z
      · exact .inr ⟨hj, z⟩) (fun j hj _ => hj) io F0 H0 F1 H1 ρ s1 σ (st.next E1 r1) r s' e De (hA.mono E1.sF))
  | false =>
    have e : sSelf i ρ s1 = some (r, s') := e
    unfold sSelf at e
    split at e
    · rename_i d hd
      cases e
      have st1 := st.next E1 r1
      obtain ⟨o, vs, ds, g1, _⟩ := st1.ow i io d hd
      refine iteF ⟨.ref o, g1, ?_⟩
      have es : σ.set i (some (V.ref o)) = σ := by
        refine List.ext_getElem? fun j => ?_
        by_cases z : i = j
        · subst z
          rw [List.getElem?_set_self (List.getElem?_eq_some_iff.mp g1).1, g1]
        · rw [List.getElem?_set_ne z]
      show De.nx (σ.set i (some (V.ref o))) H1
      rw [es]
      exact hA F1 H1 σ E1.sF st1
    · cases e
theorem rpAll_sc {K : Frag} {F F' : Hp} : ∀ {vs : List V} {ds : List D}, RpAll K F vs ds → ds.all isSc = true → RpAll K F' vs ds
  | _, _, .nil, _ => .nil
  | _, _, .cons h t, e => by
    rw [List.all_cons, Bool.and_eq_true] at e
    exact .cons (rp_sc h e.1) (rpAll_sc t e.2)
def eScL (m : EM S) : EM S := fun ρ s => bnd (m ρ s) fun d s1 => match d with
  | .list ds => if ds.all isSc = true then some (.list ds, s1) else none
  | _ => none
/-- an owned list is read where a fresh list of scalars is made -/
theorem wo_thaw {e : Expr} {m : EM S} (i : Nat) (h : WO f (own.filter (· != i)) e m) : WO f own e (eScL m) := by
  obtain ⟨t, pt, dt⟩ := h.ex
  refine ⟨t, pt, ?_⟩
  intro F0 H0 F H ρ s σ st b s' e Q q
  obtain ⟨d, s1, e1, e⟩ := bnd_some e
  split at e
  · split at e
    · rename_i hs
      cases e
      obtain ⟨F2, st2, q2⟩ := st.fzS i
      exact dt _ _ _ _ _ _ _ st2 _ _ e1 Q fun F1 H1 o vs ds E1 r1 ed n1 n2 g p => by
        cases ed
        exact q F H1 o vs _ ⟨Same.refl F, E1.sH, E1.dom, (q2.trans E1.sF).trans E1.sub, fun _ e n => absurd e n⟩ r1 rfl (by
          cases hz : F o with
          | none => rfl
          | some z => rw [(q2.trans E1.sF) o z hz] at n1; cases n1) n2 g (rpAll_sc p hs)
    · cases e
  · cases e
end
end G

/-! The data layer, 7: set(xs) of a list of ints. -/
namespace G
open PySem PySem.Spec PyProof.Rows L2
abbrev eSet (w : World) : Obj := { cls := .type "set", dict := none, data := .set #[] 0 (.fresh 0 0 (!w.params.followText "set-order")) }
section
variable {P : Program} {w : World} {A : Around} {E : Value → Shared → Prop} {s : Shared}
set_option maxHeartbeats 4000000 in
theorem set_of_list {l : Addr} {its : Array Value} (ns : List Int) {Q : Value → Shared → Prop} (hh : A.handled = none) (hl : s.heap.IsList l its) (hi : IntsAre its.toList ns) (hb : ns.length + 1 < scanBound)
    (k : ∀ (h' : Heap) (tk c : Nat), SetR w h' s.heap.objs.size (fun j => decide (j ∈ ns)) c → c ≤ ns.length → (∀ b o, s.heap.get? b = some o → h'.get? b = some o) → Q (.ref s.heap.objs.size) { s with heap := h', toks := tk }) :
    wpAny (model P w) A (call (.type "set") [.ref l]) Q E s := by
  have n0 : its.size = ns.length := by rw [← Array.length_toList]; exact IntsAre.length hi
  obtain ⟨c0, tl0, m0⟩ := F.called_set.mro
  have m1 := F.called_set.made
  have m2 := F.called_set.sub
  refine wpAny_call (codeAny_of_tree (?_ : wpAny _ _ (callAny (.type "set") _) _ _ _))
  refine wpAny_pure ⟨Code.quiet_builtin _ (by decide +kernel), codeAny_builtin F.entry_type_call (?_)⟩
  rw [Around.under_plain (weight_type_call_type "set" [.ref l] []) rfl]
  have m3 := F.called_set.notType
  have m4 := F.called_set.canCreate
  have m5 := F.typeCall_set_1 (.ref l)
  repeat (any_goals (first | assumption | wp_step))
  refine codeAny_mono (code_set_led1 (.ref l) (E := E) (Q₁ := fun v t => v = .ref s.heap.objs.size ∧ t = { s with heap := s.heap.push (eSet w) }) ⟨rfl, rfl⟩) (fun r t ht => ?_)
  rcases r with e | fl
  · exact ht
  cases fl
  case ret v =>
    obtain ⟨rfl, rfl⟩ := ht
    have g0 : (s.heap.push (eSet w)).get? s.heap.objs.size = some (eSet w) := Heap.get?_push_size _ rfl
    have g1 : Shared.TypeIs { s with heap := s.heap.push (eSet w) } (.ref s.heap.objs.size) "set" := ⟨_, g0, rfl⟩
    have g2 := F.called_set.init.lookup
    have g3 := F.called_set.init.bind (.ref s.heap.objs.size)
    repeat (any_goals (first | assumption | wp_step))
    refine codeAny_mono (codeAny_call_builtin (R := wants (fun r t => r = .none ∧ ∃ h' tk c, t = { s with heap := h', toks := tk } ∧ SetR w h' s.heap.objs.size (fun j => decide (j ∈ ns)) c ∧ c ≤ ns.length ∧ (∀ b o, s.heap.get? b = some o → h'.get? b = some o)) E)
      F.called_set.init.plain F.entry_set_init (check_set_init_1 g1 ?_)) (fun r2 t2 ht2 => ?_)
    · obtain ⟨ol, ho, hcl, nl, hdl⟩ := hl
      obtain ⟨oc, od, oo, os⟩ := ol
      simp only at hcl hdl
      subst hcl hdl
      have ho1 : (s.heap.push (eSet w)).get? l = some { cls := .type "list", dict := od, data := .seq its nl, slots := os } := Heap.get?_push_of_some _ ho
      have f1 := F.sub_list_set
      have f2 := F.sub_list_frozenset
      have f3 : (Value.type "list" == Value.type "dict") = false := by decide
      have hl1 : (s.heap.push (eSet w)).IsList l its := ⟨_, ho1, rfl, nl, rfl⟩
      unfold Builtin.«set.__init__» noKeywords Builtin.Frozenset.updateFrom
      generalize hpi : pyIter = pi
      wp_walk
      subst hpi
      refine wpAny_pyIter_list hl1 (wpAny_bind (wpAny_runValue ?_))
      have lt0 : l < s.heap.objs.size := Heap.lt_size ho
      have hd3 : A.in1.in1.in1.handled = none := by simp [hh]
      have sz1 : (s.heap.push (eSet w)).objs.size = s.heap.objs.size + 1 := Heap.size_push ..
      have ne1 : l ≠ (s.heap.push (eSet w)).objs.size := sz1 ▸ Nat.ne_of_lt (Nat.lt_succ_of_lt lt0)
      have ni : s.heap.objs.size ∉ [(s.heap.push (eSet w)).objs.size, l] := by
        rw [sz1]
        intro q
        rcases List.mem_cons.mp q with q | q
        · exact Nat.ne_of_lt (Nat.lt_succ_self _) q
        · exact Nat.ne_of_gt lt0 (List.mem_singleton.mp q)
      have hv : ∀ (i : Nat) (v : Value), its[i]? = some v → ∃ k t, ns[i]? = some k ∧ v = .int k t := fun i v hv => by
        have hi2 : i < ns.length := n0 ▸ (Array.getElem?_eq_some_iff.mp hv).1
        obtain ⟨t, e⟩ := IntsAre.int_at hi i v (Array.getElem?_toList ▸ hv)
        exact ⟨ns[i], t, List.getElem?_eq_getElem hi2, by rw [e, List.getD_eq_getElem?_getD, List.getElem?_eq_getElem hi2]; rfl⟩
      have st0 : ((s.heap.push (eSet w)).push { cls := .type "list_iterator", data := .fields #[.ref l, .int 0 0] }).get? s.heap.objs.size = some (eSet w) := Heap.get?_push_of_some _ g0
      refine set_update_ints ((Walks.list hd3 _ l ne1 its).toS) s.heap.objs.size ni ns n0 hb hv (its.size - 0) 0 _ (by omega) (Nat.zero_le _) ⟨⟨_, Heap.get?_push_size _ rfl, rfl, rfl⟩, (hl1.push _)⟩ ⟨0, Nat.le_refl 0, setR_new_at st0⟩ (fun t c hm hc hS => ?_)
      obtain ⟨h', g', d', k', o'⟩ := t
      obtain rfl : g' = s.gens := hm.gens
      obtain rfl : d' = s.drawn := hm.drawn
      obtain rfl : o' = s.os := hm.os
      show wpAny _ _ _ _ _ _
      refine wpAny_pure (?_ : wpAny _ _ (ret Value.none) _ _ _)
      refine wpAny_pure ⟨rfl, h', k', c, rfl, hS, n0 ▸ hc, fun b o e => ?_⟩
      have lb : b < s.heap.objs.size := Heap.lt_size e
      refine hm.heap b o ?_ (Heap.get?_push_of_some _ (Heap.get?_push_of_some _ e))
      rw [sz1]
      intro q
      rcases List.mem_cons.mp q with q | q
      · exact Nat.ne_of_lt lb q
      · exact Nat.ne_of_lt (Nat.lt_succ_of_lt lb) (List.mem_singleton.mp q)
    · rcases r2 with e | f2
      · exact ht2
      cases f2
      case ret r3 =>
        obtain ⟨rfl, h', tk, c, rfl, hS, hc, hk⟩ := ht2
        repeat (any_goals (first | assumption | wp_step))
        exact k _ _ _ hS hc hk
      all_goals exact ht2.elim
  all_goals exact ht.elim
end
end G

/-! The data layer, 8: sorted(set(xs)), xs a list or a tuple of ints. -/
namespace G
open PySem PySem.Spec PyProof.Rows L2
/-! ### ascending without repeats -/
def insU (x : Int) : List Int → List Int
  | [] => [x]
  | y :: r => if x < y then x :: y :: r else if x = y then y :: r else y :: insU x r
def sortU : List Int → List Int
  | [] => []
  | x :: r => insU x (sortU r)
theorem insU_mem {x z : Int} : ∀ {l : List Int}, z ∈ insU x l ↔ z = x ∨ z ∈ l
  | [] => by simp [insU]
  | y :: r => by
    unfold insU
    split
    · simp
    · split
      · rename_i h; subst h; simp
      · rw [List.mem_cons, insU_mem, List.mem_cons]
        constructor
        · rintro (h | h | h) <;> simp [h]
        · rintro (h | h | h) <;> simp [h]
theorem sortU_mem {z : Int} : ∀ {l : List Int}, z ∈ sortU l ↔ z ∈ l
  | [] => Iff.rfl
  | x :: r => by unfold sortU; rw [insU_mem, sortU_mem, List.mem_cons]
theorem insU_asc {x : Int} : ∀ {l : List Int}, l.Pairwise (· < ·) → (insU x l).Pairwise (· < ·)
  | [], _ => List.pairwise_singleton _ _
  | y :: r, h => by
    obtain ⟨h1, h2⟩ := List.pairwise_cons.mp h
    unfold insU
    split
    · rename_i hxy
      refine List.pairwise_cons.mpr ⟨fun z hz => ?_, h⟩
      rcases List.mem_cons.mp hz with e | e
      · rw [e]; exact hxy
      · exact Int.lt_trans hxy (h1 z e)
    · split
      · exact h
      · rename_i a b
        refine List.pairwise_cons.mpr ⟨fun z hz => ?_, insU_asc h2⟩
        rcases insU_mem.mp hz with e | e
        · rw [e]; omega
        · exact h1 z e
theorem sortU_asc : ∀ (l : List Int), (sortU l).Pairwise (· < ·)
  | [] => .nil
  | x :: r => insU_asc (sortU_asc r)
theorem insU_len {x : Int} : ∀ {l : List Int}, (insU x l).length ≤ l.length + 1
  | [] => Nat.le_refl _
  | y :: r => by
    unfold insU
    split
    · simp
    · split
      · simp
      · have := insU_len (x := x) (l := r)
        simp only [List.length_cons]
        omega
theorem sortU_len : ∀ {l : List Int}, (sortU l).length ≤ l.length
  | [] => Nat.le_refl _
  | x :: r => by
    have := insU_len (x := x) (l := sortU r)
    have := sortU_len (l := r)
    unfold sortU
    simp only [List.length_cons]
    omega
theorem asc_unique : ∀ {l m : List Int}, l.Pairwise (· < ·) → m.Pairwise (· < ·) → (∀ z, z ∈ l ↔ z ∈ m) → l = m
  | [], [], _, _, _ => rfl
  | [], y :: m, _, _, h => absurd ((h y).mpr List.mem_cons_self) (by simp)
  | x :: l, [], _, _, h => absurd ((h x).mp List.mem_cons_self) (by simp)
  | x :: l, y :: m, hl, hm, h => by
    obtain ⟨a1, a2⟩ := List.pairwise_cons.mp hl
    obtain ⟨b1, b2⟩ := List.pairwise_cons.mp hm
    have e : x = y := by
      rcases List.mem_cons.mp ((h x).mp List.mem_cons_self) with p | p
      · exact p
      · rcases List.mem_cons.mp ((h y).mpr List.mem_cons_self) with q | q
        · exact q.symm
        · have := b1 x p
          have := a1 y q
          omega
    subst e
    rw [asc_unique a2 b2 fun z => ?_]
    constructor
    · intro hz
      rcases List.mem_cons.mp ((h z).mp (List.mem_cons_of_mem _ hz)) with p | p
      · have := a1 z hz; omega
      · exact p
    · intro hz
      rcases List.mem_cons.mp ((h z).mpr (List.mem_cons_of_mem _ hz)) with p | p
      · have := b1 z hz; omega
      · exact p
theorem asc_nodup {l : List Int} (h : l.Pairwise (· < ·)) : l.Nodup := h.imp fun h e => by omega
theorem setR_count {w : World} {h : Heap} {a : Addr} {ns : List Int} {c : Nat} (R : SetR w h a (fun j => decide (j ∈ ns)) c) : c = (sortU ns).length := by
  obtain ⟨o, es, ep, t, ho, hex, hd, g, nd, hm, hb, hf, hn, hr, hl⟩ := R
  have p : (es.toList.map keyOf).Perm (sortU ns) := (List.perm_ext_iff_of_nodup nd (asc_nodup (sortU_asc ns))).mpr fun z => by rw [← hm z, decide_eq_true_eq, sortU_mem]
  have e := p.length_eq
  rw [List.length_map, Array.length_toList] at e
  omega
theorem lenU {ns : List Int} (h : ns.length ≤ 4000) : (sortU ns).length ≤ sizeLine := by
  have := @sortU_len ns
  rw [sizeLine_eq]
  omega
/-- sorted of a set of ints, any number of them -/
theorem sorted_setB {P : Program} {w : World} {A : Around} {E : Value → Shared → Prop} {s : Shared} {a : Addr} {M : Int → Bool} {n : Nat} {Q : Value → Shared → Prop} (R : SetR w s.heap a M n) (hh : A.handled = none) (hz : n ≤ sizeLine)
    (hQ : ∀ s' p (out : Array Value) (c : Nat) (ns : List Int), (∀ b o, s.heap.get? b = some o → s'.heap.get? b = some o) → s'.gens = s.gens → s'.os = s.os → s.heap.objs.size ≤ p →
      s'.heap.get? p = some (seqObj "list" out c) → IntsAre out.toList ns → ns.Pairwise (· < ·) → (∀ k, k ∈ ns ↔ M k = true) → Q (.ref p) s') :
    wpAny (model P w) A (call (.builtin "sorted") [.ref a]) Q E s := by
  obtain ⟨o, es, ep, t, ho, hex, hd, g, nd, hm, hb, hf, hn, hr, hl⟩ := R
  refine Calls.call_function_entry kind_sorted plain_sorted entry_sorted (args_sorted1 _) ?_
  unfold Builtin.«sorted»
  refine wpAny_bind (m := checkCount "sorted" 1 1 _) (wpAny_pure ?_)
  refine wpAny_bind (collect_set (A := A.in1) hh ⟨o, ho, hex.1, hd⟩ hf hb hr hl fun s1 vs k1 hz1 g1 o1 pm => ?_)
  have hvl : vs.length = n := by
    rw [pm.length_eq, List.length_map, Array.length_toList]
    exact hn
  have hI : IntsAre vs (vs.map Builtin.Re.reRawOf) := ints_of vs fun v hv => by
    obtain ⟨e, he, q⟩ := List.mem_map.mp (pm.mem_iff.mp hv)
    obtain ⟨k, tk, h1, _⟩ := g e he
    exact ⟨k, tk, by rw [← q]; exact h1⟩
  have pk : (vs.map Builtin.Re.reRawOf).Perm (es.toList.map keyOf) := by
    have q := pm.map Builtin.Re.reRawOf
    rw [List.map_map] at q
    exact q
  refine wpAny_bind (wpAny_newList ?_ (by rw [hvl]; exact hz))
  have hoL : (s1.heap.push (seqObj "list" vs.toArray 0)).get? s1.heap.objs.size = some (seqObj "list" vs.toArray 0) := Heap.get?_push_size _ rfl
  refine wpAny_bind (wpAny_holding (wpAny_call_entry slot_list_sort ⟨_, hoL, rfl⟩ entry_list_sort
    (SrtO.list_sort_ord SrtO.swo_int hoL (by rw [hvl]; exact hz) (fun h2 => SrtO.ints_sortable hI h2) fun out q1 q2 => ⟨_, rfl, ?_⟩) (args_list_sort _)))
  obtain ⟨k3, k4, k5⟩ := SrtO.ints_out hI q1 q2
  obtain ⟨c, hc⟩ := sortedHeap_at (vs := vs) (out := out.toArray) hoL
  have pn : (out.map SrtO.iv).Perm (es.toList.map keyOf) := k4.trans pk
  refine wpAny_pure ⟨_, rfl, hQ _ s1.heap.objs.size out.toArray c (out.map SrtO.iv) (fun b u e => ?_) g1 o1 hz1 hc k3 (lt_of_le_nodup _ k5 (pn.nodup_iff.mpr nd)) fun k => by rw [pn.mem_iff, ← hm k]⟩
  have q := k1 b u e
  have hlt := Heap.lt_size q
  show (sortedHeap (s1.heap.push (seqObj "list" vs.toArray 0)) s1.heap.objs.size vs out.toArray).get? b = some u
  rw [sortedHeap_old (Nat.ne_of_lt hlt) (by rw [size_push']; exact Nat.lt_succ_of_lt hlt)]
  exact Heap.get?_push_of_some _ q
def gSortSet : D → Option D
  | .list ds => (ints? ds).bind fun ns => if ns.length ≤ 4000 then some (.list ((sortU ns).map .int)) else none
  | .tuple ds => (ints? ds).bind fun ns => if ns.length ≤ 4000 then some (.list ((sortU ns).map .int)) else none
  | _ => none
section
variable {X : Cx}
def tSortSet (K : Frag) (ta : TE) : TE := fun σ H Q => ta σ H fun x H1 => ∃ (l : Addr) (ns : List Int), x = V.ref l ∧ (SqL K H1 l (ns.map V.int) ∨ SqT K H1 l (ns.map V.int)) ∧ (ns.length ≤ 4000) ∧
  ∀ p, H1 p = none → Q (.ref p) (upd H1 p (.lst ((sortU ns).map V.int)))
theorem pe_sortSet {a : Expr} {ta : TE} {p p2 q pos : Pos} (hc : X.calm = true) (hg : Gl X "sorted") (hm : X.mg "sorted" = none) (hg2 : Gl X "set") (hm2 : X.mg "set" = none) (ha : PE X a ta)
    (na : starEach [a] X.env = (false, eval a X.env) :: starEach [] X.env := by rfl) : PE X (.Call (.Name "sorted" p) [.Call (.Name "set" p2) [a] [] q] [] pos) (tSortSet X.K ta) := by
  refine ⟨fun pins s σ H Q I h => ?_⟩
  refine Call_ (ld_blt I hg hm (show bootBuiltins "sorted" = some (.builtin "sorted") from by decide +kernel) ?_)
  refine callWith_builtin1 (args_cons ?_ rfl) rfl rfl
  refine Call_ (ld_blt I hg2 hm2 boot_set ?_)
  refine callWith_type1 (args_cons (thn (ha.run pins s σ H _ I h) fun v s1 ⟨x, H1, I1, r1, q1⟩ => args_nil ?_) na) na rfl
  obtain ⟨l, ns, rfl, hq, h64, q1⟩ := q1
  cases r1
  have any : ∀ Qx : Value → Shared → Prop, (∀ (h' : Heap) (tk c : Nat), SetR X.w h' s1.heap.objs.size (fun j => decide (j ∈ ns)) c → c ≤ ns.length → (∀ b o, s1.heap.get? b = some o → h'.get? b = some o) → Qx (.ref s1.heap.objs.size) { s1 with heap := h', toks := tk }) →
      wpAny (model X.prog X.w) X.A (call (.type "set") [.ref l]) Qx X.xe s1 := fun Qx fin => by
    rcases hq with hq | hq
    · obtain ⟨its, r, pl, hz⟩ := I1.list hq
      exact set_of_list ns (I1.ok.hd hc) pl.isList (by simpa using r.ints) (by unfold scanBound; omega) fin
    · obtain ⟨its, r, pt, hz⟩ := I1.tuple hq
      exact call_set_tupI ns (I1.ok.hd hc) (show s1.heap.IsTuple l its.toArray from pt) (by simpa using r.ints) (by unfold scanBound; omega) fin
  refine any _ fun h' tk c R hc2 hk => ?_
  refine args_nil ?_
  refine sorted_setB R (I1.ok.hd hc) (by rw [setR_count R]; exact lenU h64) fun s' p out c2 ms k2 g2 o2 hp2 hg2 hi2 hs2 hm2 => ?_
  have em : ms = sortU ns := asc_unique hs2 (sortU_asc ns) fun z => by rw [hm2 z, decide_eq_true_eq, sortU_mem]
  subst em
  have hlen : ((sortU ns).map V.int).length ≤ sizeLine := by
    rw [List.length_map]
    exact lenU h64
  have hp3 : s1.heap.objs.size ≤ p := Nat.le_trans (Nat.le_of_lt R.lt) hp2
  have kk : ∀ b u, s1.heap.get? b = some u → s'.heap.get? b = some u := fun b u e => k2 b u (hk b u e)
  have hn : H1 p = none := I1.hok.fresh hp3
  have J : Inv X pins σ (upd H1 p (.lst ((sortU ns).map V.int))) { s1 with heap := s'.heap, gens := s'.gens, drawn := s'.drawn, toks := s'.toks } :=
    I1.call (ch := []) (Un.laid kk hp3 hn) (I1.hok.laid kk hp3 ⟨hlen, out.toList, c2, vals_of_ints hi2, hg2⟩) (by rw [g2]; exact I1.bare) (fun _ z => nomatch z)
  have e : s' = { s1 with heap := s'.heap, gens := s'.gens, drawn := s'.drawn, toks := s'.toks } := by
    cases s'
    cases s1
    cases o2
    rfl
  rw [e]
  exact ⟨.ref p, _, J, rfl, q1 p hn⟩
end
section
variable {S : Type} {f : Fam S} {own : List Nat}
theorem wo_sortset {a : Expr} {m : EM S} {p p2 q pos : Pos} (ha : WE f own a m) (hm : ∀ i, (f.X i).mg "sorted" = none) (hm2 : ∀ i, (f.X i).mg "set" = none) (hg : ∀ i, Gl (f.X i) "sorted" := by intro _; rfl) (hg2 : ∀ i, Gl (f.X i) "set" := by intro _; rfl)
    (na : ∀ i, starEach [a] (f.X i).env = (false, eval a (f.X i).env) :: starEach [] (f.X i).env := by intro _; rfl) : WO f own (.Call (.Name "sorted" p) [.Call (.Name "set" p2) [a] [] q] [] pos) (eOp1 gSortSet m) := by
  obtain ⟨t, pt, dt⟩ := ha.ex
  refine ⟨_, fun i => f.hK i ▸ pe_sortSet (f.calm i) (hg i) (hm i) (hg2 i) (hm2 i) (pt i) (na i), ?_⟩
  intro F0 H0 F H ρ s σ st d s' e Q q
  obtain ⟨x, s1, e1, e⟩ := bnd_some e
  obtain ⟨z, e3, e⟩ := bind_some e
  cases e
  refine dt _ _ _ _ _ _ _ st x _ e1 _ fun F1 H1 v E1 r1 p1 => ?_
  unfold gSortSet at e3
  split at e3
  · obtain ⟨ns, e4, e3⟩ := bind_some e3
    split at e3
    · rename_i h64
      cases e3
      have := ints?_eq e4
      subst this
      cases p1 with
      | @lst a vs _ h1 p1 =>
        have := RpAll.of_ints p1
        subst this
        refine ⟨_, ns, rfl, .inl (SqL.of (E1.sub _ _ h1)), h64, fun p np => ?_⟩
        have En := Ext.newO (o := .lst ((sortU ns).map V.int)) E1.sub np
        exact q _ _ p _ _ (E1.trans En.weak) (f.A.ext r1 En) rfl (free_of E1.sub np) (none_back E1 np) upd_same (RpAll.ints _)
    · cases e3
  · obtain ⟨ns, e4, e3⟩ := bind_some e3
    split at e3
    · rename_i h64
      cases e3
      have := ints?_eq e4
      subst this
      cases p1 with
      | @tup a vs _ h1 p1 =>
        have := RpAll.of_ints p1
        subst this
        refine ⟨_, ns, rfl, .inr (seqT E1.sub h1), h64, fun p np => ?_⟩
        have En := Ext.newO (o := .lst ((sortU ns).map V.int)) E1.sub np
        exact q _ _ p _ _ (E1.trans En.weak) (f.A.ext r1 En) rfl (free_of E1.sub np) (none_back E1 np) upd_same (RpAll.ints _)
    · cases e3
  · cases e3
end
end G

/-! The data layer: sorted of a list of tuples of ints (none of them empty), any number of them. -/
namespace G
open PySem PySem.Spec PyProof.Rows L2
/-! ### by their numbers -/
/-- a row is before another, as Python has it -/
def lexI : List Int → List Int → Bool
  | _, [] => false
  | [], _ :: _ => true
  | x :: xs, y :: ys => if x = y then lexI xs ys else decide (x < y)
theorem lexI_self : ∀ x : List Int, lexI x x = false
  | [] => rfl
  | x :: xs => by unfold lexI; rw [if_pos rfl]; exact lexI_self xs
theorem lexI_asym : ∀ x y : List Int, lexI x y = true → lexI y x = false
  | [], [], h => by cases h
  | [], _ :: _, _ => rfl
  | _ :: _, [], h => by cases h
  | x :: xs, y :: ys, h => by
    unfold lexI at h ⊢
    by_cases e : x = y
    · rw [if_pos e] at h
      rw [if_pos e.symm]
      exact lexI_asym xs ys h
    · rw [if_neg e] at h
      rw [if_neg fun z => e z.symm]
      have := of_decide_eq_true h
      exact decide_eq_false (by omega)
theorem lexI_tr : ∀ x y z : List Int, lexI y x = false → lexI z y = false → lexI z x = false
  | [], _, z, _, _ => by cases z <;> rfl
  | x :: xs, [], _, h, _ => by cases h
  | x :: xs, y :: ys, [], _, h => by cases h
  | x :: xs, y :: ys, z :: zs, h1, h2 => by
    unfold lexI at h1 h2 ⊢
    by_cases e1 : y = x
    · rw [if_pos e1] at h1
      by_cases e2 : z = y
      · rw [if_pos e2] at h2
        rw [if_pos (e2.trans e1)]
        exact lexI_tr xs ys zs h1 h2
      · rw [if_neg e2] at h2
        rw [if_neg fun q => e2 (q.trans e1.symm)]
        have := of_decide_eq_false h2
        exact decide_eq_false (by omega)
    · rw [if_neg e1] at h1
      have a1 := of_decide_eq_false h1
      by_cases e2 : z = y
      · rw [if_neg fun q => e1 (e2.symm.trans q)]
        exact decide_eq_false (by omega)
      · rw [if_neg e2] at h2
        have a2 := of_decide_eq_false h2
        rw [if_neg (by omega)]
        exact decide_eq_false (by omega)
theorem lexI_anti : ∀ x y : List Int, lexI x y = false → lexI y x = false → x = y
  | [], [], _, _ => rfl
  | [], _ :: _, h, _ => by cases h
  | _ :: _, [], _, h => by cases h
  | x :: xs, y :: ys, h1, h2 => by
    unfold lexI at h1 h2
    by_cases e : x = y
    · rw [if_pos e] at h1
      rw [if_pos e.symm] at h2
      rw [e, lexI_anti xs ys h1 h2]
    · rw [if_neg e] at h1
      rw [if_neg fun z => e z.symm] at h2
      have := of_decide_eq_false h1
      have := of_decide_eq_false h2
      omega
theorem swo_lexI {α : Type} (k : α → List Int) : SrtO.Swo fun x y => lexI (k x) (k y) := ⟨fun x y h => lexI_asym _ _ h, fun x y z h1 h2 => lexI_tr _ _ _ h1 h2⟩
/-- never before an earlier one -/
def Sd (l : List (List Int)) : Prop := l.Pairwise fun x y => lexI y x = false
def insR (x : List Int) : List (List Int) → List (List Int)
  | [] => [x]
  | y :: r => if lexI y x = true then y :: insR x r else x :: y :: r
def sortR : List (List Int) → List (List Int)
  | [] => []
  | x :: r => insR x (sortR r)
theorem insR_perm (x : List Int) : ∀ l, (insR x l).Perm (x :: l)
  | [] => .refl _
  | y :: r => by
    unfold insR
    split
    · exact ((insR_perm x r).cons y).trans (.swap x y r)
    · exact .refl _
theorem sortR_perm : ∀ l, (sortR l).Perm l
  | [] => .refl _
  | x :: r => (insR_perm x (sortR r)).trans ((sortR_perm r).cons x)
theorem insR_sd (x : List Int) : ∀ {l}, Sd l → Sd (insR x l)
  | [], _ => List.pairwise_singleton _ _
  | y :: r, h => by
    obtain ⟨h1, h2⟩ := List.pairwise_cons.mp h
    unfold insR
    split
    · rename_i q
      refine List.pairwise_cons.mpr ⟨fun z hz => ?_, insR_sd x h2⟩
      rcases List.mem_cons.mp ((insR_perm x r).mem_iff.mp hz) with e | e
      · rw [e]
        exact lexI_asym _ _ q
      · exact h1 z e
    · rename_i q
      have q : lexI y x = false := by simpa using q
      refine List.pairwise_cons.mpr ⟨fun z hz => ?_, h⟩
      rcases List.mem_cons.mp hz with e | e
      · rw [e]
        exact q
      · exact lexI_tr _ _ _ q (h1 z e)
theorem sortR_sd : ∀ l, Sd (sortR l)
  | [] => .nil
  | x :: r => insR_sd x (sortR_sd r)
theorem sd_uniq : ∀ {l m : List (List Int)}, Sd l → Sd m → l.Perm m → l = m
  | [], m, _, _, p => (List.Perm.eq_nil p.symm).symm
  | x :: l, [], _, _, p => absurd p.length_eq (by simp)
  | x :: l, y :: m, hl, hm, p => by
    obtain ⟨a1, a2⟩ := List.pairwise_cons.mp hl
    obtain ⟨b1, b2⟩ := List.pairwise_cons.mp hm
    have e : x = y := by
      rcases List.mem_cons.mp (p.mem_iff.mp List.mem_cons_self) with q | q
      · exact q
      · rcases List.mem_cons.mp (p.mem_iff.mpr List.mem_cons_self) with q' | q'
        · exact q'.symm
        · exact lexI_anti _ _ (b1 x q) (a1 y q') 
    subst e
    rw [sd_uniq a2 b2 ((List.perm_cons x).mp p)]
/-! ### in the model -/
section
variable {prog : Program} {w : World} {A : Around} {E : Value → Shared → Prop} {s : Shared}
theorem lex_rows {b : Bool} {Q : Bool → Shared → Prop} {xs ys : List Value} {ns ms : List Int} (i : Nat) (hx : IntsAre xs ns) (hy : IntsAre ys ms) (fin : Bool) (hf : fin = decide (ns.length < ms.length))
    (h : Q (lexI ns ms) s) : PySem.W.KatLex prog w A b fin Q (xs.zip ys) i s := by
  induction hx generalizing ys ms i fin with
  | nil =>
    refine PySem.W.kat_nil ?_
    cases hy with
    | nil => rw [hf]; exact h
    | cons q u hy => rw [hf]; exact h
  | @cons p t xs ns hx ih =>
    cases hy with
    | nil =>
      refine PySem.W.kat_nil ?_
      rw [hf]
      exact h
    | @cons q u ys ms hy =>
      show PySem.W.KatLex prog w A b fin Q ((Value.int p t, Value.int q u) :: xs.zip ys) i s
      refine PySem.W.kat_cons (wpAny_eqBool_int ?_)
      unfold lexI at h
      by_cases e : p = q
      · rw [if_pos e] at h
        subst e
        rw [beq_self_eq_true]
        refine PySem.W.kat_yes (ih (i + 1) hy fin ?_ h)
        rw [hf]
        simp
      · rw [if_neg e] at h
        rw [show (p == q) = false from beq_eq_false_iff_ne.mpr e]
        exact PySem.W.kat_no (TS.oneLt_ints _ h)
theorem first_rows {h : Heap} {k : Value → List Int} : ∀ vs : List Value, (∀ v ∈ vs, TS.TupInts h v (k v) ∧ k v ≠ []) → ∃ fs, PySem.W.KatTups h vs fs ∧ fs.length = vs.length ∧ ∀ f ∈ fs, ∃ n t, f = Value.int n t
  | [], _ => ⟨[], PySem.W.KatTups.nil, rfl, fun f hf => by cases hf⟩
  | v :: vs, x => by
    obtain ⟨fs, q, hl, hi⟩ := first_rows vs fun u hu => x u (List.mem_cons_of_mem _ hu)
    obtain ⟨⟨a, xs, rfl, ⟨o, ho, hc, n, hd⟩, i⟩, hne⟩ := x v List.mem_cons_self
    cases hk : k (.ref a) with
    | nil => exact absurd hk hne
    | cons m ms =>
      rw [hk] at i
      obtain ⟨y, ys, e⟩ : ∃ y ys, xs.toList = y :: ys := by
        cases hq : xs.toList with
        | nil => rw [hq] at i; cases i
        | cons y ys => exact ⟨y, ys, rfl⟩
      obtain ⟨m', t, hy⟩ := i.all y (by rw [e]; exact List.mem_cons_self)
      refine ⟨y :: fs, PySem.W.KatTups.cons ho hc hd ?_ q, by simp [hl], fun f hf => ?_⟩
      · have z := congrArg (fun l : List Value => l[0]?) e
        simpa using z
      · rcases List.mem_cons.mp hf with rfl | hf
        · exact ⟨m', t, hy⟩
        · exact hi f hf
theorem rows_sortable {a : Addr} {vs : List Value} {k : Value → List Int} (h0 : 0 < vs.length) (hp : ∀ v ∈ vs, TS.TupInts s.heap v (k v) ∧ k v ≠ []) (ha : ∀ o, s.heap.get? a = some o → o.cls ≠ .type "tuple") : SrtO.SortableO prog w A s a vs fun v u => lexI (k v) (k u) := by
  intro h' keep
  have hp' : ∀ v ∈ vs, TS.TupInts h' v (k v) ∧ k v ≠ [] := fun v hm => ⟨(hp v hm).1.keeps fun b o e c => keep b o (fun z => by subst z; exact ha o e c) e, (hp v hm).2⟩
  obtain ⟨fs, h1, h2, h3⟩ := first_rows vs hp'
  refine ⟨tuples' true, fun Q E hq => ?_, fun p q hm hm' => ?_⟩
  · refine PySem.W.kat_kind (T := .type "int") h1 (by omega) (fun f hm => ?_) (by rfl) ?_
    · obtain ⟨x, t, rfl⟩ := h3 f hm
      exact PySem.W.Looks.now
    · have e : (Value.type "int" != Value.type "tuple") = true := by first | decide +kernel | rfl | decide
      rw [e]
      exact hq
  · obtain ⟨⟨a1, xs, e1, ⟨o, ho, hc, n, hd⟩, i1⟩, _⟩ := hp' _ hm
    obtain ⟨⟨a2, ys, e2, ⟨o', ho', hc', n', hd'⟩, i2⟩, _⟩ := hp' _ hm'
    show wpAny (model prog w) A (keyLt' (tuples' true) p.1 q.1) (fun r s' => s' = { s with heap := h' } ∧ r = lexI (k p.1) (k q.1)) (fun _ _ => False) { s with heap := h' }
    rw [e1, e2]
    refine PySem.W.kat_lt ho hd ho' hd' (lex_rows 0 (e1 ▸ i1) (e2 ▸ i2) _ ?_ ⟨rfl, rfl⟩)
    have l1 := i1.length
    have l2 := i2.length
    rw [Array.length_toList] at l1 l2
    rw [e1] at l1
    rw [e2] at l2
    rw [l1, l2]
end
/-! ### as a rule -/
def Al2 (P : V → List Int → Prop) : List V → List (List Int) → Prop
  | [], [] => True
  | x :: xs, r :: rs => P x r ∧ Al2 P xs rs
  | _, _ => False
abbrev RowsAt (K : Frag) (H : Hp) : List V → List (List Int) → Prop := Al2 fun x r => ∃ t, x = V.ref t ∧ SqT K H t (r.map V.int)
theorem Al2.out {P : V → List Int → Prop} {k : Value → List Int} : ∀ {us : List Value}, Al2 P (us.map backV) (us.map k) → ∀ u ∈ us, P (backV u) (k u)
  | [], _, u, hu => by cases hu
  | v :: us, h, u, hu => by
    obtain ⟨h1, h2⟩ := h
    rcases List.mem_cons.mp hu with e | e
    · rw [e]; exact h1
    · exact Al2.out h2 u e
theorem Al2.mk {P : V → List Int → Prop} {k : Value → List Int} : ∀ {us : List Value}, (∀ u ∈ us, P (backV u) (k u)) → Al2 P (us.map backV) (us.map k)
  | [], _ => trivial
  | v :: us, h => ⟨h v List.mem_cons_self, Al2.mk fun u hu => h u (List.mem_cons_of_mem _ hu)⟩
def rSortedR (K : Frag) : List V → Hp → VK → Prop := fun vs H Q => ∃ (a : Addr) (xs : List V) (rs : List (List Int)), vs = [V.ref a] ∧ SqL K H a xs ∧ RowsAt K H xs rs ∧ (∀ r ∈ rs, r ≠ []) ∧
  ∀ ys p, (∀ P : V → List Int → Prop, Al2 P xs rs → Al2 P ys (sortR rs)) → H p = none → Q (.ref p) (upd H p (.lst ys))
theorem RowsAt.val {X : Cx} {pins : List (Addr × Obj)} {σ : L2.St} {H : Hp} {s : Shared} (I : Inv X pins σ H s) : ∀ {xs : List V} {us : List Value} {rs : List (List Int)}, Vals xs us → RowsAt X.K H xs rs →
    us.map (TS.intsOf s.heap) = rs ∧ ∀ u ∈ us, TS.TupInts s.heap u (TS.intsOf s.heap u) ∧ ∃ t, u = Value.ref t ∧ SqT X.K H t ((TS.intsOf s.heap u).map V.int)
  | [], _, [], .nil, _ => ⟨rfl, fun u hu => by cases hu⟩
  | [], _, _ :: _, .nil, h => h.elim
  | x :: xs, _, [], .cons _ _, h => h.elim
  | x :: xs, _, r :: rs, .cons rv t, h => by
    obtain ⟨⟨a, rfl, hq⟩, h2⟩ := h
    obtain ⟨e, all⟩ := RowsAt.val I t h2
    cases rv
    obtain ⟨its, r2, ⟨o, ho, hc, n, hd⟩, _⟩ := I.tuple hq
    have ti : TS.TupInts s.heap (.ref a) r := ⟨a, its.toArray, rfl, ⟨o, ho, hc, n, hd⟩, by simpa using r2.ints⟩
    have ei := ti.ints
    refine ⟨by rw [List.map_cons, ei, e], fun u hu => ?_⟩
    rcases List.mem_cons.mp hu with z | z
    · rw [z, ei]
      exact ⟨ti, a, rfl, hq⟩
    · exact all u z
theorem RowsAt.refs {K : Frag} {H : Hp} : ∀ {xs : List V} {rs : List (List Int)}, RowsAt K H xs rs → ∀ x ∈ xs, ∃ t, x = V.ref t
  | [], _, _, x, hx => by cases hx
  | y :: xs, [], h, _, _ => h.elim
  | y :: xs, r :: rs, h, x, hx => by
    obtain ⟨⟨t, e, _⟩, h2⟩ := h
    rcases List.mem_cons.mp hx with z | z
    · exact ⟨t, z.trans e⟩
    · exact RowsAt.refs h2 x z
section
variable {X : Cx}
theorem cr_sortedR : CallR X (.builtin "sorted") (rSortedR X.K) := by
  intro pins s σ H vs us Q I r h
  obtain ⟨a, xs, rs, rfl, hs, hx, hne, q⟩ := h
  obtain ⟨its, rv, hl, hz⟩ := I.list hs
  rw [Vals.ref1 r]
  obtain ⟨er, all⟩ := RowsAt.val I rv hx
  have hp : ∀ v ∈ its, TS.TupInts s.heap v (TS.intsOf s.heap v) ∧ TS.intsOf s.heap v ≠ [] := fun v hv => ⟨(all v hv).1, hne _ (by rw [← er]; exact List.mem_map.mpr ⟨v, hv, rfl⟩)⟩
  refine SrtO.sorted_ord (swo_lexI (TS.intsOf s.heap)) hl.isList (by rw [← rv.length]; exact hz) (fun h2 h₁ a' ha kk => ?_) fun out h1 h2 => ?_
  · refine rows_sortable (s := { s with heap := h₁ }) (by omega) (fun v hv => ⟨(hp v hv).1.keeps fun b o e _ => (kk b o e).2, (hp v hv).2⟩) fun o e => ?_
    have e' : some o = some (seqObj "list" its.toArray 0) := e.symm.trans ha
    cases e'
    intro c
    exact absurd (Value.type.inj c) (by decide)
  · have allo : ∀ u ∈ out, ∃ t, u = Value.ref t ∧ SqT X.K H t ((TS.intsOf s.heap u).map V.int) := fun u hu => (all u (h2.perm.mem_iff.mp hu)).2
    have e1 : xs = its.map backV := (refs_back rv hx.refs).1
    have e3 : out.map (TS.intsOf s.heap) = sortR rs := by
      refine sd_uniq (List.pairwise_map.mpr h1) (sortR_sd rs) ?_
      refine (h2.perm.map (TS.intsOf s.heap)).trans ?_
      rw [er]
      exact (sortR_perm rs).symm
    have hR : ∀ P : V → List Int → Prop, Al2 P xs rs → Al2 P (out.map backV) (sortR rs) := fun P hP => by
      rw [← e3]
      rw [e1, ← er] at hP
      exact Al2.mk fun u hu => hP.out u (h2.perm.mem_iff.mp hu)
    obtain ⟨ep, he'⟩ := PyProof.Rows.sortedAll_at s.heap its out.toArray
    have hlen : (out.map backV).length ≤ sizeLine := by
      rw [List.length_map, h2.perm.length_eq, ← rv.length]
      exact hz
    have h3 : ∀ u ∈ out, ∃ a, u = Value.ref a := fun u hu => by
      obtain ⟨t, e, _⟩ := allo u hu
      exact ⟨t, e⟩
    exact ⟨.ref _, upd H (s.heap.objs.size + 1) (.lst (out.map backV)), I.laid (t' := s.toks) (fun _ _ => PyProof.Rows.sortedAll_old) (Nat.le_succ _) ⟨hlen, out, ep, vals_back h3, he'⟩, rfl, q _ _ hR (I.hok.fresh (Nat.le_succ _))⟩
def rSortedA (K : Frag) : List V → Hp → VK → Prop := fun vs H Q => rSortedI K vs H Q ∨ rSortedR K vs H Q
theorem cr_sortedA : CallR X (.builtin "sorted") (rSortedA X.K) := by
  intro pins s σ H vs us Q I r h
  rcases h with h | h
  · exact cr_sortedI pins s σ H vs us Q I r h
  · exact cr_sortedR pins s σ H vs us Q I r h
end
/-! ### on data -/
def rowI? : D → Option (List Int)
  | .tuple (d :: ds) => ints? (d :: ds)
  | _ => none
def rowsI? : List D → Option (List (List Int))
  | [] => some []
  | d :: ds => (rowI? d).bind fun r => (rowsI? ds).bind fun rs => some (r :: rs)
def rowT (r : List Int) : D := .tuple (r.map PyData.int)
theorem rowI?_eq {d : D} {r : List Int} (e : rowI? d = some r) : d = rowT r ∧ r ≠ [] := by
  unfold rowI? at e
  split at e
  · rename_i d ds
    have := ints?_eq e
    refine ⟨by rw [this]; rfl, fun z => ?_⟩
    rw [z] at this
    cases this
  · cases e
theorem rowsI?_eq : ∀ {ds : List D} {rs : List (List Int)}, rowsI? ds = some rs → ds = rs.map rowT ∧ ∀ r ∈ rs, r ≠ []
  | [], _, e => by cases e; exact ⟨rfl, fun r hr => by cases hr⟩
  | d :: ds, _, e => by
    unfold rowsI? at e
    obtain ⟨r, e1, e⟩ := bind_some e
    obtain ⟨rs, e2, e⟩ := bind_some e
    cases e
    obtain ⟨h1, h2⟩ := rowI?_eq e1
    obtain ⟨h3, h4⟩ := rowsI?_eq e2
    refine ⟨by rw [h1, h3]; rfl, fun z hz => ?_⟩
    rcases List.mem_cons.mp hz with q | q
    · rw [q]; exact h2
    · exact h4 z q
theorem rowsI?_map : ∀ {rs : List (List Int)}, (∀ r ∈ rs, r ≠ []) → rowsI? (rs.map rowT) = some rs
  | [], _ => rfl
  | r :: rs, h => by
    have h1 := rowsI?_map fun x hx => h x (List.mem_cons_of_mem _ hx)
    have h0 := h r List.mem_cons_self
    rw [List.map_cons]
    unfold rowsI?
    rw [h1]
    cases r with
    | nil => exact absurd rfl h0
    | cons a r =>
      show (ints? ((a :: r).map PyData.int)).bind _ = _
      rw [ints?_map]
      rfl
theorem RpAll.rows {K : Frag} {F : Hp} : ∀ {vs : List V} {rs : List (List Int)}, RpAll K F vs (rs.map rowT) → RowsAt K F vs rs
  | _, [], h => by cases h; trivial
  | _, r :: rs, h => by
    cases h with
    | cons h1 h2 =>
      cases h1 with
      | tup hq p =>
        have := RpAll.of_ints p
        subst this
        exact ⟨⟨_, rfl, hq⟩, RpAll.rows h2⟩
theorem RowsAt.mono {K : Frag} {F H : Hp} (s : Same F H) : ∀ {vs : List V} {rs : List (List Int)}, RowsAt K F vs rs → RowsAt K H vs rs
  | [], [], _ => trivial
  | [], _ :: _, h => h.elim
  | _ :: _, [], h => h.elim
  | _ :: _, _ :: _, h => by
    obtain ⟨⟨t, e, q⟩, h2⟩ := h
    exact ⟨⟨t, e, seqT s q⟩, RowsAt.mono s h2⟩
def orD (a b : Option D) : Option D := match a with
  | some d => some d
  | none => b
theorem orD_some {a b : Option D} {d : D} (e : orD a b = some d) : a = some d ∨ b = some d := by
  cases a with
  | none => exact .inr e
  | some x => exact .inl e
def gSortedT : List D → Option D
  | [.list ds] => (rowsI? ds).bind fun rs => some (.list ((sortR rs).map rowT))
  | _ => none
def gSortedG (ds : List D) : Option D := orD (gSorted ds) (gSortedT ds)
theorem gSortedT_rows {rs : List (List Int)} (h : ∀ r ∈ rs, r ≠ []) : gSortedT [.list (rs.map rowT)] = some (.list ((sortR rs).map rowT)) := by
  show (rowsI? _).bind _ = _
  rw [rowsI?_map h]
  rfl
theorem gSorted_rows {rs : List (List Int)} (hne : rs ≠ []) : gSorted [.list (rs.map rowT)] = none := by
  cases rs with
  | nil => exact absurd rfl hne
  | cons r rs => rfl
theorem RpAll.of_al2 {K : Frag} {F : Hp} : ∀ {ys : List V} {rs : List (List Int)}, Al2 (fun x r => Rp K F x (rowT r)) ys rs → RpAll K F ys (rs.map rowT)
  | [], [], _ => .nil
  | [], _ :: _, h => h.elim
  | _ :: _, [], h => h.elim
  | _ :: _, _ :: _, h => .cons h.1 (RpAll.of_al2 h.2)
theorem RpAll.to_al2 {K : Frag} {F : Hp} : ∀ {ys : List V} {rs : List (List Int)}, RpAll K F ys (rs.map rowT) → Al2 (fun x r => Rp K F x (rowT r)) ys rs
  | _, [], h => by cases h; trivial
  | _, _ :: _, h => by
    cases h with
    | cons h1 h2 => exact ⟨h1, RpAll.to_al2 h2⟩
theorem co_sortedG {K : Frag} : CallO K (rSortedA K) gSortedG := by
  intro F H vs ds d sm rv e Q q
  rcases orD_some e with e | e
  · exact .inl (co_sorted F H vs ds d sm rv e Q q)
  · unfold gSortedT at e
    split at e
    · obtain ⟨rs, e1, e⟩ := bind_some e
      cases e
      obtain ⟨h1, hne⟩ := rowsI?_eq e1
      subst h1
      obtain ⟨v, rfl, r⟩ := rp1 rv
      cases r with
      | lst h1 p1 =>
        exact .inr ⟨_, _, rs, rfl, SqL.of (sm _ _ h1), (RpAll.rows p1).mono sm, hne, fun ys p hy np => q _ p _ _ (Ext.newO sm np) rfl np upd_same (RpAll.of_al2 (hy _ (RpAll.to_al2 p1)))⟩
    · cases e
end G

/-! The data layer: min, max of lists and tuples of any data that are alike. -/
namespace G
open PySem PySem.Spec PyProof.Rows L2
def alikeB (ds : List D) : Bool := ds.all fun x => (ds.all fun y => PySem.W.alike x y) && (match x with | .none => false | _ => true)
theorem alikeB_is {ds : List D} (h : alikeB ds = true) : PySem.W.AlikeAll ds := by
  unfold alikeB at h
  rw [List.all_eq_true] at h
  refine ⟨fun x hx y hy => ?_, fun x hx z => ?_⟩
  · have := h x hx
    rw [Bool.and_eq_true, List.all_eq_true] at this
    exact this.1 y hy
  · have := h x hx
    rw [Bool.and_eq_true, z] at this
    exact Bool.false_ne_true this.2
def rBestD (K : Frag) (g : D → List D → D) : List V → Hp → VK → Prop := fun vs H Q => ∃ (a : Addr) (xs : List V) (d : D) (ds : List D), vs = [V.ref a] ∧ SqA K H a xs ∧ DpAll K H xs (d :: ds) ∧ PySem.W.AlikeAll (d :: ds) ∧ PyData.depthAll (d :: ds) ≤ 60 ∧
  ∀ (i : Nat) (x : V), xs[i]? = some x → (d :: ds)[i]? = some (g d ds) → Q x H
section
variable {X : Cx}
theorem best_at {pins : List (Addr × Obj)} {σ : L2.St} {H : Hp} {s : Shared} {h' : Heap} {its : List Value} {xs : List V} {ds : List D} {as bs : List Addr} {i : Nat} {v : Value} {m : D} (rv : Vals xs its) (hr : ReadsAll s.heap its ds as)
    (hv : its.toArray[i]? = some v) (hm : Reads h' v m bs) (hk : ∀ b o, s.heap.get? b = some o → h'.get? b = some o) : ∃ x, xs[i]? = some x ∧ RelV x v ∧ ds[i]? = some m := by
  have hv : its[i]? = some v := by simpa using hv
  obtain ⟨cs, r1, hi, _, _⟩ := PySem.W.readsAll_at hr i v hv
  have e := (Reads.unique (PyProof.Rows.Reads.keeps hk r1) _ _ hm).1
  have hx : i < xs.length := by
    rw [rv.length]
    exact (List.getElem?_eq_some_iff.mp hv).1
  obtain ⟨u, hu, ru⟩ := rv.get (List.getElem?_eq_getElem hx)
  have : u = v := Option.some.inj (hu.symm.trans hv)
  subst this
  refine ⟨_, List.getElem?_eq_getElem hx, ru, ?_⟩
  rw [← e, List.getD_eq_getElem?_getD, List.getElem?_eq_getElem hi]
  rfl
theorem cr_minD (hc : X.calm = true) (hu : X.A.units + 64 < cLine) : CallR X (.builtin "min") (rBestD X.K PySem.W.minD) := by
  intro pins s σ H vs us Q I r h
  obtain ⟨a, xs, d, ds, rfl, hs, hd, ha, hz, q⟩ := h
  rw [Vals.ref1 r]
  rcases hs with hs | hs
  · obtain ⟨its, rv, hl, _⟩ := I.list hs
    obtain ⟨as, hr⟩ := Dp.readsAll I _ _ _ hd rv
    refine PySem.W.min_list_data (I.ok.hd hc) hl.isList (by simpa using hr) ha (by omega) fun i v h' tk bs hv hm hk => ?_
    obtain ⟨x, hx, rx, he⟩ := best_at (H := H) (σ := σ) (pins := pins) rv hr hv hm hk
    exact ⟨x, H, I.kept hk, rx, q i x hx he⟩
  · obtain ⟨its, rv, hl, _⟩ := I.tuple hs
    obtain ⟨as, hr⟩ := Dp.readsAll I _ _ _ hd rv
    refine PySem.W.min_tuple_data (I.ok.hd hc) (show s.heap.IsTuple a its.toArray from hl) (by simpa using hr) ha (by omega) fun i v h' tk bs hv hm hk => ?_
    obtain ⟨x, hx, rx, he⟩ := best_at (H := H) (σ := σ) (pins := pins) rv hr hv hm hk
    exact ⟨x, H, I.kept hk, rx, q i x hx he⟩
theorem cr_maxD' (hc : X.calm = true) (hu : X.A.units + 64 < cLine) : CallR X (.builtin "max") (rBestD X.K PySem.W.maxD) := by
  intro pins s σ H vs us Q I r h
  obtain ⟨a, xs, d, ds, rfl, hs, hd, ha, hz, q⟩ := h
  rw [Vals.ref1 r]
  rcases hs with hs | hs
  · obtain ⟨its, rv, hl, _⟩ := I.list hs
    obtain ⟨as, hr⟩ := Dp.readsAll I _ _ _ hd rv
    refine PySem.W.max_list_data (I.ok.hd hc) hl.isList (by simpa using hr) ha (by omega) fun i v h' tk bs hv hm hk => ?_
    obtain ⟨x, hx, rx, he⟩ := best_at (H := H) (σ := σ) (pins := pins) rv hr hv hm hk
    exact ⟨x, H, I.kept hk, rx, q i x hx he⟩
  · obtain ⟨its, rv, hl, _⟩ := I.tuple hs
    obtain ⟨as, hr⟩ := Dp.readsAll I _ _ _ hd rv
    refine PySem.W.max_tuple_data (I.ok.hd hc) (show s.heap.IsTuple a its.toArray from hl) (by simpa using hr) ha (by omega) fun i v h' tk bs hv hm hk => ?_
    obtain ⟨x, hx, rx, he⟩ := best_at (H := H) (σ := σ) (pins := pins) rv hr hv hm hk
    exact ⟨x, H, I.kept hk, rx, q i x hx he⟩
def rMinG (K : Frag) : List V → Hp → VK → Prop := fun vs H Q => rMinA K vs H Q ∨ rBestD K PySem.W.minD vs H Q
def rMaxG (K : Frag) : List V → Hp → VK → Prop := fun vs H Q => rMaxA K vs H Q ∨ rBestD K PySem.W.maxD vs H Q
theorem cr_minG (hc : X.calm = true) (hu : X.A.units + 64 < cLine) : CallR X (.builtin "min") (rMinG X.K) := by
  intro pins s σ H vs us Q I r h
  rcases h with h | h
  · exact cr_minA hc pins s σ H vs us Q I r h
  · exact cr_minD hc hu pins s σ H vs us Q I r h
theorem cr_maxG (hc : X.calm = true) (hu : X.A.units + 64 < cLine) : CallR X (.builtin "max") (rMaxG X.K) := by
  intro pins s σ H vs us Q I r h
  rcases h with h | h
  · exact cr_maxA hc pins s σ H vs us Q I r h
  · exact cr_maxD' hc hu pins s σ H vs us Q I r h
end
def bestD (g : D → List D → D) : List D → Option D
  | [.list (d :: ds)] => if alikeB (d :: ds) = true ∧ PyData.depthAll (d :: ds) ≤ 60 then some (g d ds) else none
  | [.tuple (d :: ds)] => if alikeB (d :: ds) = true ∧ PyData.depthAll (d :: ds) ≤ 60 then some (g d ds) else none
  | _ => none
def gMinG (ds : List D) : Option D := orD (gMin ds) (bestD PySem.W.minD ds)
def gMaxG (ds : List D) : Option D := orD (gMax ds) (bestD PySem.W.maxD ds)
theorem rpAll_get {K : Frag} {F : Hp} {vs : List V} {ds : List D} (h : RpAll K F vs ds) {i : Nat} {x : V} {d : D} (hx : vs[i]? = some x) (hd : ds[i]? = some d) : Rp K F x d := by
  obtain ⟨v, h1, h2⟩ := RpAll.get h hd
  have := Option.some.inj (h1.symm.trans hx)
  subst this
  exact h2
theorem cd_best {K : Frag} {g : D → List D → D} : CallD K (rBestD K g) (bestD g) := by
  intro F H vs ds d sm rv e Q q
  unfold bestD at e
  split at e
  · split at e
    · rename_i hc
      cases e
      obtain ⟨v, rfl, r⟩ := rp1 rv
      cases r with
      | lst h1 p1 => exact ⟨_, _, _, _, rfl, .inl (SqL.of (sm _ _ h1)), rpAll_dp _ _ (p1.mo sm), alikeB_is hc.1, hc.2, fun i x hx hd => q F H x (Ext.refl sm) (rpAll_get p1 hx hd)⟩
    · cases e
  · split at e
    · rename_i hc
      cases e
      obtain ⟨v, rfl, r⟩ := rp1 rv
      cases r with
      | tup h1 p1 => exact ⟨_, _, _, _, rfl, .inr (seqT sm h1), rpAll_dp _ _ (p1.mo sm), alikeB_is hc.1, hc.2, fun i x hx hd => q F H x (Ext.refl sm) (rpAll_get p1 hx hd)⟩
    · cases e
  · cases e
theorem cd_minG {K : Frag} : CallD K (rMinG K) gMinG := by
  intro F H vs ds d sm rv e Q q
  rcases orD_some e with e | e
  · exact .inl (cd_min F H vs ds d sm rv e Q q)
  · exact .inr (cd_best F H vs ds d sm rv e Q q)
theorem cd_maxG {K : Frag} : CallD K (rMaxG K) gMaxG := by
  intro F H vs ds d sm rv e Q q
  rcases orD_some e with e | e
  · exact .inl (cd_max F H vs ds d sm rv e Q q)
  · exact .inr (cd_best F H vs ds d sm rv e Q q)
/-! ### tuples of ints in order -/
theorem lexI_lt : ∀ xs ys : List Int, lexI xs ys = decide (xs < ys)
  | [], [] => by simp [lexI]
  | [], y :: ys => by simp [lexI]
  | x :: xs, [] => by simp [lexI]
  | x :: xs, y :: ys => by
    unfold lexI
    by_cases h : x = y
    · rw [if_pos h, lexI_lt xs ys]
      simp [h, List.cons_lt_cons_iff]
    · rw [if_neg h]
      simp [h, List.cons_lt_cons_iff]
theorem dataLt_rowT (xs ys : List Int) : PySem.W.dataLt (rowT xs) (rowT ys) = lexI xs ys := by
  unfold rowT
  rw [PySem.W.dataLt_tuple, lexI_lt, ← PySem.W.dataLt_ints]
  rfl
theorem alike_rowT (xs ys : List Int) : PySem.W.alike (rowT xs) (rowT ys) = true := by
  unfold rowT
  rw [PySem.W.alike]
  exact PySem.W.alike_ints xs ys
theorem depth_rowT (xs : List Int) : (rowT xs).depth = 1 := by
  unfold rowT
  rw [PyData.depth, PySem.W.depth_ints]
theorem dLt_rowT (xs ys : List Int) : dLt (rowT xs) (rowT ys) = some (.bool (lexI xs ys)) := by
  have h : ordOk (rowT xs) (rowT ys) = true := by
    unfold ordOk
    rw [alike_rowT, depth_rowT]
    rfl
  show (if ordOk (rowT xs) (rowT ys) = true then some (PyData.bool (PySem.W.dataLt (rowT xs) (rowT ys))) else none) = _
  rw [if_pos h, dataLt_rowT]
theorem depthAll_rowT : ∀ (L : List (List Int)), PyData.depthAll (L.map rowT) ≤ 1
  | [] => by simp [PyData.depthAll]
  | x :: L => by
    have := depthAll_rowT L
    rw [List.map_cons, PyData.depthAll, depth_rowT]
    omega
theorem alikeB_rowT (L : List (List Int)) : alikeB (L.map rowT) = true := by
  unfold alikeB
  rw [List.all_eq_true]
  intro x hx
  obtain ⟨r, _, rfl⟩ := List.mem_map.mp hx
  rw [Bool.and_eq_true, List.all_eq_true]
  refine ⟨fun y hy => ?_, rfl⟩
  obtain ⟨r', _, rfl⟩ := List.mem_map.mp hy
  exact alike_rowT r r'
theorem minD_sd : ∀ {x : List Int} {L : List (List Int)}, (∀ y ∈ L, lexI y x = false) → PySem.W.minD (rowT x) (L.map rowT) = rowT x := by
  intro x L h
  unfold PySem.W.minD
  induction L with
  | nil => rfl
  | cons y L ih =>
    rw [List.map_cons, List.foldl_cons, dataLt_rowT, h y List.mem_cons_self, if_neg Bool.false_ne_true]
    exact ih fun z hz => h z (List.mem_cons_of_mem _ hz)
/-- min of a sorted list of rows: the first -/
theorem gMinG_sd {x : List Int} {L : List (List Int)} (h : ∀ y ∈ L, lexI y x = false) : gMinG [.list ((x :: L).map rowT)] = some (rowT x) := by
  have h0 : ints? ((x :: L).map rowT) = none := rfl
  have h1 : gMin [.list ((x :: L).map rowT)] = none := by
    show (ints? ((x :: L).map rowT)).bind (fun ns => if ns ≠ [] then some (PyData.int (minI ns)) else none) = none
    rw [h0]
    rfl
  unfold gMinG
  rw [h1]
  show (if alikeB (rowT x :: L.map rowT) = true ∧ PyData.depthAll (rowT x :: L.map rowT) ≤ 60 then some (PySem.W.minD (rowT x) (L.map rowT)) else none) = _
  have h2 := alikeB_rowT (x :: L)
  have h3 := depthAll_rowT (x :: L)
  rw [List.map_cons] at h2 h3
  rw [if_pos ⟨h2, by omega⟩, minD_sd h]
end G

/-! The data layer: x[::-1], x a list or a tuple. -/
namespace G
open PySem PySem.Spec PyProof.Rows L2
section
variable {prog : Program} {w : World} {A : Around} {E : Value → Shared → Prop} {s : Shared}
theorem places_back (n : Nat) : Builtin.Slice.slicePlaces ((n : Int) - 1) (-1) (-1) = n := by
  unfold Builtin.Slice.slicePlaces
  rw [if_neg (by decide)]
  cases n with
  | zero => rfl
  | succ n =>
    rw [if_pos (by omega)]
    have : (((n + 1 : Nat) : Int) - 1 - (-1) - 1) / (- -1) + 1 = ((n + 1 : Nat) : Int) := by
      rw [show (- -1 : Int) = 1 from rfl, Int.ediv_one]
      omega
    rw [this]
    rfl
theorem sliceApplied_back {sl : Addr} {vl vu vs : Value} {n : Nat} {Q : Int × Int × Nat → Shared → Prop} (hs : s.heap.IsSliceOf sl vl vu vs) (pl : IsPart vl none) (pu : IsPart vu none) (ps : IsPart vs (some (-1)))
    (h : Q ((n : Int) - 1, -1, n) s) : wpAny (model prog w) A (Builtin.Slice.sliceApplied (.ref sl) (pure (n : Int))) Q E s := by
  obtain ⟨os, hos, hcs, hds⟩ := id hs
  unfold Builtin.Slice.sliceApplied Builtin.Slice.sliceFields
  refine wpAny_bind (wpAny_bind (wpAny_field hos hds (x := vl) rfl (wpAny_bind (wpAny_field hos hds (x := vu) rfl (wpAny_bind (wpAny_field hos hds (x := vs) rfl (wpAny_pure ?_)))))))
  refine wpAny_bind (HT.slicePart_ ps ?_)
  show wpAny _ _ (if ((-1 : Int) == 0) = true then _ else _) _ _ s
  rw [if_neg (by decide)]
  refine wpAny_bind (HT.slicePart_ pl (wpAny_bind (HT.slicePart_ pu (wpAny_bind (wpAny_pure ?_)))))
  show wpAny _ _ (pure ((n : Int) - 1, (-1 : Int), Builtin.Slice.slicePlaces ((n : Int) - 1) (-1) (-1))) _ _ s
  rw [places_back]
  exact wpAny_pure h
theorem fm_congr {α β : Type} {f g : α → Option β} : ∀ {l : List α}, (∀ a ∈ l, f a = g a) → l.filterMap f = l.filterMap g
  | [], _ => rfl
  | a :: l, h => by
    have ih := fm_congr fun b hb => h b (List.mem_cons_of_mem _ hb)
    rw [List.filterMap_cons, List.filterMap_cons, h a List.mem_cons_self, ih]
theorem pick_back (xs : Array Value) : ((List.range xs.size).filterMap fun (k : Nat) => xs[(((xs.size : Int) - 1) + (k : Int) * (-1)).toNat]?).toArray = xs.toList.reverse.toArray := by
  congr 1
  refine List.ext_getElem? fun i => ?_
  have e : (List.range xs.size).filterMap (fun (k : Nat) => xs[(((xs.size : Int) - 1) + (k : Int) * (-1)).toNat]?) = (List.range xs.size).map fun k => xs.toList.reverse.getD k .none := by
    rw [← List.filterMap_eq_map]
    refine fm_congr fun k hk => ?_
    have hk := List.mem_range.mp hk
    have e1 : (((xs.size : Int) - 1) + (k : Int) * (-1)).toNat = xs.size - 1 - k := by omega
    have h2 : k < xs.toList.reverse.length := by rw [List.length_reverse, Array.length_toList]; exact hk
    rw [e1, Array.getElem?_eq_getElem (by omega)]
    show _ = some (xs.toList.reverse.getD k .none)
    rw [List.getD_eq_getElem?_getD, List.getElem?_eq_getElem h2, List.getElem_reverse]
    simp
  rw [e]
  by_cases hi : i < xs.size
  · have h2 : i < xs.toList.reverse.length := by rw [List.length_reverse, Array.length_toList]; exact hi
    rw [List.getElem?_map, List.getElem?_range hi, List.getElem?_eq_getElem h2]
    show some (xs.toList.reverse.getD i .none) = _
    rw [List.getD_eq_getElem?_getD, List.getElem?_eq_getElem h2]
    rfl
  · rw [List.getElem?_eq_none (by simp; omega), List.getElem?_eq_none (by simp; omega)]
theorem getItem_tuple_back {t sl : Addr} {items : Array Value} {vl vu vs : Value} {Q : Value → Shared → Prop} (ht : IsTup s.heap t items) (hs : s.heap.IsSliceOf sl vl vu vs) (pl : IsPart vl none) (pu : IsPart vu none) (ps : IsPart vs (some (-1)))
    (h : Q (.ref s.heap.objs.size) { s with heap := s.heap.push { cls := .type "tuple", data := .seq items.toList.reverse.toArray } })
    (hsz : items.size ≤ sizeLine) : wpAny (model prog w) A (getItem (.ref t) (.ref sl)) Q E s := by
  have htake : sizeOk (.seq items.toList.reverse.toArray) := by
    show items.toList.reverse.toArray.size ≤ sizeLine
    rw [List.size_toArray, List.length_reverse, Array.length_toList]
    exact hsz
  obtain ⟨os, hos, hcs, hds⟩ := id hs
  have hTs : s.TypeIs (.ref sl) "slice" := ⟨os, hos, hcs⟩
  unfold getItem
  try with_reducible refine wpAny_holding ?_
  first | refine wpAny_bind (wpAny_pure ?_) | skip
  refine wpAny_bind (wpAny_sequenceKey ht.typeIs (by decide) ?_)
  refine wpAny_bind (wpAny_callSpecial?_slot (name := Str.ofString "__getitem__") ht.typeIs PyProof.Rows.slot_tuple_getitem
    (wpAny_call_entry PyProof.Rows.slot_tuple_getitem ht.typeIs entry_tuple_getitem ?_ (args_tuple_getitem _ _)))
  show wpAny _ _ (Builtin.Tuple.tupleItemsOf (.ref t) >>= _) _ _ s
  refine wpAny_bind (tupleItemsOf_ ht ?_)
  refine wpAny_bind (wpAny_typeOf hTs ?_)
  rw [if_pos (by decide)]
  refine wpAny_bind (sliceApplied_back hs pl pu ps ?_)
  have hno : ¬ ((((items.size : Int) - 1) == 0 && (-1 : Int) == 1 && items.size == items.size) = true) := by
    intro q
    rw [Bool.and_eq_true, Bool.and_eq_true] at q
    exact absurd q.1.2 (by decide)
  show wpAny _ _ (if (((items.size : Int) - 1) == 0 && (-1 : Int) == 1 && items.size == items.size) = true then _ else _) _ _ s
  rw [if_neg hno, pick_back]
  first
    | exact wpAny_bind (m := Builtin.Tuple.tupleExact _) (wpAny_newObj_type (wpAny_pure ⟨_, rfl, wpAny_pure h⟩) htake)
    | exact wpAny_bind (m := Builtin.Tuple.tupleExact _) (wpAny_newObj_type (wpAny_bind (wpAny_pure (wpAny_pure ⟨_, rfl, wpAny_pure h⟩))) htake)
    | exact wpAny_bind (wpAny_bind (m := Builtin.Tuple.tupleExact _) (wpAny_newObj_type (wpAny_pure (wpAny_pure ⟨_, rfl, wpAny_pure h⟩)) htake))
    | exact wpAny_bind (wpAny_bind (m := Builtin.Tuple.tupleExact _) (wpAny_newObj_type (wpAny_pure ⟨_, rfl, wpAny_pure h⟩) htake))
end
section
variable {X : Cx}
def tRevA (K : Frag) (te : TE) : TE := fun σ H Q => te σ H fun x H1 => ∃ a xs, x = .ref a ∧ ((SqL K H1 a xs ∧ ∀ p, H1 p = none → Q (.ref p) (upd H1 p (.lst xs.reverse))) ∨ (SqT K H1 a xs ∧ ∀ p, H1 p = none → Q (.ref p) (upd H1 p (.tup xs.reverse))))
theorem pe_revA {e : Expr} {te : TE} {k : Nat} {p1 p2 p3 pos : Pos} (he : PE X e te) : PE X (.Subscript e (.Slice none none (some (.UnaryOp .USub (.Constant (.int 1) k p1) p2)) p3) pos) (tRevA X.K te) := by
  refine ⟨fun pins s σ H Q I h => ?_⟩
  refine Subscript_ (thn (he.run pins s σ H _ I h) fun v s1 ⟨x, H1, I1, r1, q1⟩ => ?_)
  obtain ⟨a, xs, ex, q⟩ := q1
  subst ex
  cases r1
  have hst : PO X (some (.UnaryOp .USub (.Constant (.int 1) k p1) p2)) (tPart (tUn (rU fun i => .int (-i)) (tC (.int 1)))) := po_some (pe_un un_neg pe_int)
  refine wpAny_Slice (thn (po_none.run pins s1 σ H1 (fun o H2 => o = none ∧ H2 = H1) I1 ⟨rfl, rfl⟩) fun vl s2 ⟨l, H2, I2, pl, el, e2⟩ => ?_)
  subst el e2
  refine thn (po_none.run pins s2 σ H2 (fun o H3 => o = none ∧ H3 = H2) I2 ⟨rfl, rfl⟩) fun vu s3 ⟨u, H3, I3, pu, eu, e3⟩ => ?_
  subst eu e3
  refine thn (hst.run pins s3 σ H3 (fun o H4 => o = some (-1) ∧ H4 = H3) I3 ⟨1, rfl, -1, rfl, rfl, rfl⟩) fun vs s4 ⟨o, H4, I4, ps, eo, e4⟩ => ?_
  subst eo e4
  have I5 : Inv X pins σ H4 { s4 with heap := s4.heap.push { cls := .type "slice", data := .fields #[vl, vu, vs] } } := I4.kept (t' := s4.toks) fun b ob q => Heap.get?_push_of_some _ q
  rcases q with ⟨hx, q⟩ | ⟨hx, q⟩
  · obtain ⟨its, r, ht, hz⟩ := I5.list hx
    show wpAny (model X.prog X.w) X.A (subscriptTail e (.Slice none none (some (.UnaryOp .USub (.Constant (.int 1) k p1) p2)) p3) (.ref a) (.ref s4.heap.objs.size)) (EP X pins σ Q) X.xe { s4 with heap := s4.heap.push { cls := .type "slice", data := .fields #[vl, vu, vs] } }
    refine tail_any (ops := [.ref a, .ref s4.heap.objs.size]) ht.isList.typeIs (PySem.slot_list_getitem.lookup) ?_ (by with_unfolding_all rfl)
    refine wpAny_getItem_list_slice ht.isList (Heap.IsSliceOf.new _ vl vu vs) pl pu ps (by decide) ?_ (by have := r.length; rw [List.size_toArray]; omega)
    rw [PySem.W.krv_pick]
    refine ⟨.ref _, _, I5.laid (t' := s4.toks) (o := .lst xs.reverse) (fun b ob q => Heap.get?_push_of_some _ q) (Nat.le_refl _) ?_, rfl, q _ (I5.hok.fresh (Nat.le_refl _))⟩
    exact ⟨by rw [List.length_reverse]; exact hz, _, 0, r.reverse, Heap.get?_push_size _ rfl⟩
  · obtain ⟨its, r, ht, hz⟩ := I5.tuple hx
    show wpAny (model X.prog X.w) X.A (subscriptTail e (.Slice none none (some (.UnaryOp .USub (.Constant (.int 1) k p1) p2)) p3) (.ref a) (.ref s4.heap.objs.size)) (EP X pins σ Q) X.xe { s4 with heap := s4.heap.push { cls := .type "slice", data := .fields #[vl, vu, vs] } }
    refine tail_any (ops := [.ref a, .ref s4.heap.objs.size]) ht.typeIs PyProof.Rows.slot_tuple_getitem.lookup ?_ (by with_unfolding_all rfl)
    refine getItem_tuple_back ht (Heap.IsSliceOf.new _ vl vu vs) pl pu ps ?_ (by have := r.length; rw [List.size_toArray]; omega)
    refine ⟨.ref _, _, I5.laid (t' := s4.toks) (o := .tup xs.reverse) (fun b ob q => Heap.get?_push_of_some _ q) (Nat.le_refl _) ?_, rfl, q _ (I5.hok.fresh (Nat.le_refl _))⟩
    exact ⟨by rw [List.length_reverse]; exact hz, _, r.reverse, IsTup.new _ _⟩
end
section
variable {S : Type} {f : Fam S} {own : List Nat}
def dRevA : D → Option D
  | .list xs => some (.list xs.reverse)
  | .tuple xs => some (.tuple xs.reverse)
  | _ => none
theorem we_revA {e : Expr} {m : EM S} {k : Nat} {p1 p2 p3 pos : Pos} (h : WE f own e m) : WE f own (.Subscript e (.Slice none none (some (.UnaryOp .USub (.Constant (.int 1) k p1) p2)) p3) pos) (eOp1 dRevA m) := by
  obtain ⟨t, pt, dt⟩ := h.ex
  refine ⟨_, fun i => f.hK i ▸ pe_revA (pt i), ?_⟩
  intro F0 H0 F H ρ s σ st d s' e Q q
  obtain ⟨x, s1, e1, e⟩ := bnd_some e
  obtain ⟨z, e3, e⟩ := bind_some e
  cases e
  refine dt _ _ _ _ _ _ _ st x _ e1 _ fun F1 H1 v E1 r1 p1 => ?_
  unfold dRevA at e3
  split at e3
  · cases e3
    cases p1 with
    | @lst a vs _ h1 p1 =>
      refine ⟨_, _, rfl, .inl ⟨SqL.of (E1.sub _ _ h1), fun p np => ?_⟩⟩
      have En := Ext.new (o := .lst vs.reverse) E1.sub np
      exact q _ _ _ (E1.trans En.weak) (f.A.ext r1 En) (Rp.lst upd_same (RpAll.mo (RpAll.reverse p1) En.sF))
  · cases e3
    cases p1 with
    | @tup a vs _ h1 p1 =>
      refine ⟨_, _, rfl, .inr ⟨seqT E1.sub h1, fun p np => ?_⟩⟩
      have En := Ext.new (o := .tup vs.reverse) E1.sub np
      exact q _ _ _ (E1.trans En.weak) (f.A.ext r1 En) (Rp.tup (SqT.of upd_same) (RpAll.mo (RpAll.reverse p1) En.sF))
  · cases e3
end
end G

/-! Values of mirrors: plain Lean. -/
namespace G
open PySem
/-! ### loops -/
theorem forGo_inv {S : Type} {tg : GM} {body : SM S} (I : Slots → S → Prop) : ∀ (ds : List D), (∀ d ∈ ds, ∀ ρ s, I ρ s → ∃ ρ1, tg d ρ = some ρ1 ∧ ∃ ρ2 s2, body ρ1 s = some (.nx ρ2, s2) ∧ I ρ2 s2) → ∀ ρ s, I ρ s → ∃ ρ' s', forGo tg body ds ρ s = some (.nx ρ', s') ∧ I ρ' s'
  | [], _, ρ, s, h => ⟨ρ, s, rfl, h⟩
  | d :: ds, hb, ρ, s, h => by
    obtain ⟨ρ1, e1, ρ2, s2, e2, h2⟩ := hb d List.mem_cons_self ρ s h
    obtain ⟨ρ', s', e3, h3⟩ := forGo_inv I ds (fun d hd => hb d (List.mem_cons_of_mem _ hd)) ρ2 s2 h2
    refine ⟨ρ', s', ?_, h3⟩
    unfold forGo
    rw [e1]
    show bnd (body ρ1 s) _ = _
    rw [e2]
    exact e3
/-- by the turn's number -/
theorem forGo_at {S : Type} {tg : GM} {body : SM S} (ds : List D) (I : Nat → Slots → S → Prop) (hb : ∀ i d, ds[i]? = some d → ∀ ρ s, I i ρ s → ∃ ρ1, tg d ρ = some ρ1 ∧ ∃ ρ2 s2, body ρ1 s = some (.nx ρ2, s2) ∧ I (i + 1) ρ2 s2) :
    ∀ ρ s, I 0 ρ s → ∃ ρ' s', forGo tg body ds ρ s = some (.nx ρ', s') ∧ I ds.length ρ' s' := by
  induction ds generalizing I with
  | nil => exact fun ρ s h => ⟨ρ, s, rfl, h⟩
  | cons d ds ih =>
    intro ρ s h
    obtain ⟨ρ1, e1, ρ2, s2, e2, h2⟩ := hb 0 d rfl ρ s h
    obtain ⟨ρ', s', e3, h3⟩ := ih (fun i => I (i + 1)) (fun i d' hd => hb (i + 1) d' (by simpa using hd)) ρ2 s2 h2
    refine ⟨ρ', s', ?_, by simpa using h3⟩
    unfold forGo
    rw [e1]
    show bnd (body ρ1 s) _ = _
    rw [e2]
    exact e3
/-- a while loop by an invariant and a measure: it ends behind its test -/
theorem whGo_by {S : Type} {t : TM S} {body : SM S} (I : Slots → S → Prop) (μ : Slots → S → Nat) (R : Slots → S → Prop)
    (hb : ∀ ρ s, I ρ s → (∃ s1, t ρ s = some (false, s1) ∧ R ρ s1) ∨ (∃ s1 ρ2 s2, t ρ s = some (true, s1) ∧ body ρ s1 = some (.nx ρ2, s2) ∧ I ρ2 s2 ∧ μ ρ2 s2 < μ ρ s)) :
    ∀ (n : Nat) ρ s, I ρ s → μ ρ s < n → ∃ ρ' s', whGo t body n ρ s = some (.nx ρ', s') ∧ R ρ' s'
  | 0, _, _, _, h => absurd h (Nat.not_lt_zero _)
  | n + 1, ρ, s, hI, h => by
    unfold whGo
    rcases hb ρ s hI with ⟨s1, e1, r⟩ | ⟨s1, ρ2, s2, e1, e2, h2, lt⟩
    · rw [e1]
      exact ⟨ρ, s1, rfl, r⟩
    · obtain ⟨ρ', s', e3, r⟩ := whGo_by I μ R hb n ρ2 s2 h2 (by omega)
      refine ⟨ρ', s', ?_, r⟩
      rw [e1, bnd_mk, if_pos rfl, e2]
      exact e3
/-- a comprehension whose parts change nothing -/
theorem lcGo_pure {S : Type} {tg : GM} {tt : TM S} {te : EM S} {ρ : Slots} {s : S} {ds : List D} (p : D → Bool) (g : D → D) (h : ∀ d ∈ ds, ∃ ρ1, tg d ρ = some ρ1 ∧ tt ρ1 s = some (p d, s) ∧ (p d = true → te ρ1 s = some (g d, s))) :
    lcGo tg tt te ρ ds s = some ((ds.filter p).map g, s) := by
  induction ds with
  | nil => rfl
  | cons d ds ih =>
    obtain ⟨ρ1, e1, e2, e3⟩ := h d List.mem_cons_self
    have ih := ih fun d hd => h d (List.mem_cons_of_mem _ hd)
    unfold lcGo
    rw [e1]
    show bnd (tt ρ1 s) _ = _
    rw [e2, bnd_mk]
    cases hp : p d with
    | true => rw [if_pos rfl, e3 hp, bnd_mk, ih, bnd_mk, List.filter_cons_of_pos hp, List.map_cons]
    | false => rw [if_neg Bool.false_ne_true, ih, List.filter_cons_of_neg (by simp [hp])]
/-! ### draws -/
def Ok (s : DS) : Prop := (∀ c ∈ s.cells, 0 ≤ c) ∧ 0 ≤ s.seed ∧ s.seed < 2147483647
theorem dropZ_sub : ∀ (l : List Int) (c : Int), c ∈ dropZ l → c ∈ l
  | [], c, h => h
  | x :: r, c, h => by
    unfold dropZ at h
    split at h
    · exact List.mem_cons_of_mem _ (dropZ_sub r c h)
    · exact h
theorem drawI_ok {s : DS} {n : Int} (h : Ok s) (hn : 0 < n) : 0 ≤ (drawI s n).1 ∧ (drawI s n).1 < n ∧ Ok (drawI s n).2 := by
  unfold drawI
  split
  · rename_i c r e
    have hm : ∀ x, x ∈ c :: r → x ∈ s.cells := fun x hx => dropZ_sub _ _ (by rw [e]; exact hx)
    refine ⟨Int.emod_nonneg _ (by omega), Int.emod_lt_of_pos _ hn, fun x hx => ?_, h.2⟩
    rcases List.mem_cons.mp hx with q | q
    · rw [q]
      exact Int.ediv_nonneg (h.1 c (hm c List.mem_cons_self)) (by omega)
    · exact h.1 x (hm x (List.mem_cons_of_mem _ q))
  · exact ⟨Int.emod_nonneg _ (by omega), Int.emod_lt_of_pos _ hn, fun x hx => by simp at hx, Int.emod_nonneg _ (by decide), Int.emod_lt_of_pos _ (by decide)⟩
/-- a draw below n -/
theorem draw_ok {s : DS} {n : Int} (h : Ok s) (hn : 0 < n) (hz : n.natAbs.log2 < 9000) : ∃ v s', m_draw [none, some (.int n)] s = some (.int v, s') ∧ 0 ≤ v ∧ v < n ∧ Ok s' := by
  obtain ⟨h1, h2, h3⟩ := drawI_ok h hn
  exact ⟨_, _, if_pos ⟨hn, hz⟩, h1, h2, h3⟩
theorem seedOf_bd (ns : List Int) : 0 ≤ seedOf ns ∧ seedOf ns < 1000003 := by
  unfold seedOf
  rcases List.eq_nil_or_concat ns with e | ⟨l', c', e⟩
  · rw [e]; decide
  · rw [e, List.concat_eq_append, List.foldl_append]
    exact ⟨Int.emod_nonneg _ (by decide), Int.emod_lt_of_pos _ (by decide)⟩
theorem stateOf_ok (ns : List Int) : Ok (stateOf ns) := by
  have := seedOf_bd ns
  refine ⟨fun c hc => ?_, by show 0 ≤ seedOf ns + 1; omega, by show seedOf ns + 1 < _; omega⟩
  obtain ⟨x, _, rfl⟩ := List.mem_map.mp hc
  split <;> omega
/-! ### sizes -/
theorem log2_lt {n : Nat} {k : Nat} (h : n < 2 ^ k) (hk : 0 < k) : n.log2 < k := PySem.Flt.log2_lt_of hk h
theorem small_mul {i j : Int} (hi : i.natAbs < 2 ^ 400) (hj : j.natAbs < 2 ^ 400) : i.natAbs.log2 + j.natAbs.log2 < 1000000 := by
  have h1 := log2_lt hi (by decide)
  have h2 := log2_lt hj (by decide)
  omega
theorem small_div {j : Int} (h : j.natAbs < 2 ^ 400) : j.natAbs.log2 < 9000 := by
  have h1 := log2_lt h (by decide)
  omega
theorem dMul_int {i j : Int} (hi : i.natAbs < 2 ^ 400) (hj : j.natAbs < 2 ^ 400) : dMul (.int i) (.int j) = some (.int (i * j)) := if_pos (small_mul hi hj)
theorem dDiv_int {i j : Int} (hj : 0 < j) (hz : j.natAbs < 2 ^ 400) : dDiv (.int i) (.int j) = some (.int (i / j)) := if_pos ⟨hj, small_div hz⟩
theorem dMod_int {i j : Int} (hj : 0 < j) : dMod (.int i) (.int j) = some (.int (i % j)) := if_pos hj
theorem dAdd_int {i j : Int} : dAdd (.int i) (.int j) = some (.int (i + j)) := rfl
theorem dSub_int {i j : Int} : dSub (.int i) (.int j) = some (.int (i - j)) := rfl
theorem dEq_int {i j : Int} : dEq (.int i) (.int j) = some (.bool (i == j)) := by
  unfold dEq
  rw [if_pos ⟨rfl, rfl⟩]
  simp only [PyData.eqv]
theorem dNe_int {i j : Int} : dNe (.int i) (.int j) = some (.bool (!(i == j))) := by
  unfold dNe
  rw [if_pos ⟨rfl, rfl⟩]
  simp only [PyData.eqv]
theorem seq_nx {S : Type} {a b : SM S} {ρ ρ' : Slots} {s s' : S} (h : a ρ s = some (.nx ρ', s')) : sSeq a b ρ s = b ρ' s' := by
  unfold sSeq
  rw [h]
  rfl
theorem seq_rt {S : Type} {a b : SM S} {ρ : Slots} {d : D} {s s' : S} (h : a ρ s = some (.rt d, s')) : sSeq a b ρ s = some (.rt d, s') := by
  unfold sSeq
  rw [h]
  rfl
theorem dMul_list {xs : List D} {k : Nat} (h2 : xs.length * k ≤ 16777216) (h : k ≤ 16777216) : dMul (.list xs) (.int (k : Int)) = some (.list (List.replicate k xs).flatten) := by
  have h3 : xs.length * (k : Int).toNat ≤ sizeLine := by rw [sizeLine_eq, Int.toNat_natCast]; exact h2
  have a1 : -(2 ^ 63 : Int) ≤ (k : Int) := by omega
  have a2 : (k : Int) < (2 ^ 63 : Int) := by omega
  simp only [dMul]
  rw [if_pos (And.intro a1 (And.intro a2 h3)), Int.toNat_natCast]
theorem dCat_list {xs ys : List D} (h : xs.length + ys.length ≤ sizeLine) : dCat (.list xs) (.list ys) = some (.list (xs ++ ys)) := if_pos h
theorem dAdd_list {xs ys : List D} (h : xs.length + ys.length ≤ sizeLine) : dAdd (.list xs) (.list ys) = some (.list (xs ++ ys)) := if_pos h
theorem dAdd_tuple {xs ys : List D} (h : xs.length + ys.length ≤ sizeLine) : dAdd (.tuple xs) (.tuple ys) = some (.tuple (xs ++ ys)) := if_pos h
theorem dRep_list {xs : List D} {k : Nat} (h2 : xs.length * k ≤ 16777216) (h : k ≤ 16777216) : dRep (.list xs) (.int (k : Int)) = some (.list (List.replicate k xs).flatten) := by
  have h3 : xs.length * (k : Int).toNat ≤ sizeLine := by rw [sizeLine_eq, Int.toNat_natCast]; exact h2
  have a1 : -(2 ^ 63 : Int) ≤ (k : Int) := by omega
  have a2 : (k : Int) < (2 ^ 63 : Int) := by omega
  simp only [dRep]
  rw [if_pos (And.intro a1 (And.intro a2 h3)), Int.toNat_natCast]
end G

/-! Sums of given numbers: plain Lean. -/
namespace G
open PySem L2
theorem bezout : ∀ a b : Nat, ∃ x y : Int, x * a + y * b = Nat.gcd a b := by
  intro a
  induction a using Nat.strongRecOn with
  | _ a ih =>
    intro b
    by_cases h : a = 0
    · subst h; exact ⟨0, 1, by simp⟩
    · obtain ⟨x, y, e⟩ := ih (b % a) (Nat.mod_lt _ (by omega)) a
      refine ⟨y - x * (b / a : Nat), x, ?_⟩
      rw [Nat.gcd_rec a b, ← e]
      have : (b : Int) = (a : Int) * (b / a : Nat) + (b % a : Nat) := by exact_mod_cast (Nat.div_add_mod b a).symm
      grind
inductive El (row : List Nat) : Nat → Prop
  | zero : El row 0
  | step {n a : Nat} : a ∈ row → El row n → El row (n + a)
theorem El.pre {row : List Nat} {n : Nat} (h : El row n) (hn : 0 < n) : ∃ a ∈ row, a ≤ n ∧ El row (n - a) := by
  cases h with
  | zero => omega
  | step ha h => exact ⟨_, ha, by omega, by rw [Nat.add_sub_cancel]; exact h⟩
theorem El.of_pre {row : List Nat} {n a : Nat} (ha : a ∈ row) (hl : a ≤ n) (h : El row (n - a)) : El row n := by
  have := El.step ha h
  rwa [Nat.sub_add_cancel hl] at this
theorem El.mono {row row' : List Nat} (hs : ∀ a ∈ row, a ∈ row') {n : Nat} (h : El row n) : El row' n := by
  induction h with
  | zero => exact .zero
  | step ha _ ih => exact .step (hs _ ha) ih
theorem El.add {row : List Nat} {m n : Nat} (h : El row m) (h' : El row n) : El row (m + n) := by
  induction h' with
  | zero => exact h
  | step ha _ ih => rw [← Nat.add_assoc]; exact .step ha ih
theorem El.mem {row : List Nat} {a : Nat} (h : a ∈ row) : El row a := by
  have := El.step h (.zero : El row 0)
  rwa [Nat.zero_add] at this
theorem El.mul {row : List Nat} {a : Nat} (h : El row a) : ∀ k : Nat, El row (k * a)
  | 0 => by rw [Nat.zero_mul]; exact .zero
  | k + 1 => by rw [Nat.succ_mul]; exact El.add (El.mul h k) h
noncomputable def elb (row : List Nat) (n : Nat) : Bool := @decide (El row n) (Classical.propDecidable _)
theorem elb_iff {row : List Nat} {n : Nat} : elb row n = true ↔ El row n := by
  unfold elb
  exact @decide_eq_true_iff _ (Classical.propDecidable _)
theorem elb_false {row : List Nat} {n : Nat} : elb row n = false ↔ ¬ El row n := by
  rw [← elb_iff, Bool.not_eq_true]
theorem elb_zero {row : List Nat} : elb row 0 = true := elb_iff.mpr .zero
def rowD (row : List Nat) : List D := row.map fun a : Nat => .int (a : Int)
def tab (p : Nat → Bool) (m : Nat) : List D := (List.range m).map fun n => .bool (p n)
theorem tab_length (p : Nat → Bool) (m : Nat) : (tab p m).length = m := by simp [tab]
theorem tab_get {p : Nat → Bool} {m n : Nat} (h : n < m) : (tab p m)[n]? = some (.bool (p n)) := by
  unfold tab
  rw [List.getElem?_map, List.getElem?_range h]
  rfl
theorem ixN_nat {m n : Nat} (h : n < m) : ixN m (n : Int) = some n := by
  unfold ixN
  rw [if_pos (by omega), if_pos (by omega)]
  simp
theorem atI_lt {α : Type} {xs : List α} {n : Nat} (h : n < xs.length) : atI xs (n : Int) = xs[n]? := by
  unfold atI
  rw [ixN_nat h]
  rfl
theorem atI_tab {p : Nat → Bool} {m n : Nat} (h : n < m) : atI (tab p m) (n : Int) = some (.bool (p n)) := by
  rw [atI_lt (by rw [tab_length]; exact h), tab_get h]
theorem tab_congr {p q : Nat → Bool} {m : Nat} (h : ∀ n, n < m → p n = q n) : tab p m = tab q m := by
  unfold tab
  exact List.map_congr_left fun n hn => by rw [h n (List.mem_range.mp hn)]
theorem tab_set {p : Nat → Bool} {m n : Nat} {v : Bool} : (tab p m).set n (.bool v) = tab (fun k => if k = n then v else p k) m := by
  refine List.ext_getElem? fun i => ?_
  by_cases hi : i < m
  · rw [tab_get hi]
    by_cases e : n = i
    · subst e
      rw [List.getElem?_set_self (by rw [tab_length]; exact hi), if_pos rfl]
    · rw [List.getElem?_set_ne e, tab_get hi, if_neg (fun q => e q.symm)]
  · rw [List.getElem?_eq_none (by rw [List.length_set, tab_length]; omega), List.getElem?_eq_none (by rw [tab_length]; omega)]
theorem rep_one {α : Type} (x : α) : ∀ n : Nat, (List.replicate n [x]).flatten = List.replicate n x
  | 0 => rfl
  | n + 1 => by rw [List.replicate_succ, List.flatten_cons, rep_one x n, List.replicate_succ]; rfl
theorem tab_init (m : Nat) : PyData.bool true :: List.replicate m (PyData.bool false) = tab (fun n => n == 0) (m + 1) := by
  unfold tab
  rw [List.range_succ_eq_map, List.map_cons, List.map_map]
  congr 1
  refine List.ext_getElem? fun i => ?_
  by_cases hi : i < m
  · rw [List.getElem?_replicate, if_pos hi, List.getElem?_map, List.getElem?_range hi]
    rfl
  · rw [List.getElem?_replicate, if_neg hi, List.getElem?_eq_none (by simp; omega)]
theorem sizeLine_val : sizeLine = 16777216 := sizeLine_eq
end G

/-! Evaluation by rules. -/
namespace G
open PySem L2
variable {S : Type}
theorem bd62_ok {i : Int} (h1 : -1000000000000000000 ≤ i) (h2 : i ≤ 1000000000000000000) : bd62 i = true := by
  unfold bd62
  have e : (2 ^ 62 : Int) = 4611686018427387904 := by decide
  rw [e]
  exact decide_eq_true ⟨by omega, by omega⟩
theorem le_sz {n : Nat} (h : n ≤ 16777216) : n ≤ sizeLine := by
  rw [sizeLine_eq]
  exact h
theorem ev_var {i : Nat} {ρ : Slots} {s : S} {d : D} (h : ρ[i]? = some (some d)) : eVar i ρ s = some (d, s) := by
  unfold eVar
  rw [h]
theorem ev_ii {i : Int} {ρ : Slots} {s : S} : eC (.int i) ρ s = some (.int i, s) := rfl
theorem ev_op2 {g : D → D → Option D} {a b : EM S} {ρ : Slots} {s s1 s2 : S} {x y z : D} (ha : a ρ s = some (x, s1)) (hb : b ρ s1 = some (y, s2)) (hg : g x y = some z) : eOp2 g a b ρ s = some (z, s2) := by
  unfold eOp2
  rw [ha, bnd_mk, hb, bnd_mk, hg]
  rfl
theorem ev_op1 {g : D → Option D} {a : EM S} {ρ : Slots} {s s1 : S} {x z : D} (ha : a ρ s = some (x, s1)) (hg : g x = some z) : eOp1 g a ρ s = some (z, s1) := by
  unfold eOp1
  rw [ha, bnd_mk, hg]
  rfl
theorem ev_nil {ρ : Slots} {s : S} : lNil ρ s = some ([], s) := rfl
theorem ev_cons {a : EM S} {r : LM S} {ρ : Slots} {s s1 s2 : S} {x : D} {xs : List D} (ha : a ρ s = some (x, s1)) (hr : r ρ s1 = some (xs, s2)) : lCons a r ρ s = some (x :: xs, s2) := by
  unfold lCons
  rw [ha, bnd_mk, hr, bnd_mk]
theorem ev_call {g : List D → Option D} {m : LM S} {ρ : Slots} {s s1 : S} {xs : List D} {d : D} (h : m ρ s = some (xs, s1)) (hg : g xs = some d) : eCall g m ρ s = some (d, s1) := by
  unfold eCall
  rw [h, bnd_mk, hg]
  rfl
theorem ev_callP {M : Mir Unit} {m : LM S} {ρ : Slots} {s s1 : S} {xs : List D} {d : D} (h : m ρ s = some (xs, s1)) (hg : M (xs.map some) () = some (d, ())) : eCallP M m ρ s = some (d, s1) := by
  unfold eCallP
  rw [h, bnd_mk, hg, bnd_mk]
theorem ev_callS {M : Mir DS} {m : LM DS} {ρ : Slots} {s s1 s2 : DS} {xs : List D} {d : D} (h : m ρ s = some (xs, s1)) (hg : M (none :: xs.map some) s1 = some (d, s2)) : eCallS M m ρ s = some (d, s2) := by
  unfold eCallS
  rw [h, bnd_mk, hg]
theorem ev_lst {m : LM S} {ρ : Slots} {s s1 : S} {xs : List D} (h : m ρ s = some (xs, s1)) (hl : xs.length ≤ 16777216) : eLst m ρ s = some (.list xs, s1) := by
  unfold eLst
  rw [h, bnd_mk, if_pos (le_sz hl)]
theorem ev_tup {m : LM S} {ρ : Slots} {s s1 : S} {xs : List D} (h : m ρ s = some (xs, s1)) (hl : xs.length ≤ 16777216) : eTup m ρ s = some (.tuple xs, s1) := by
  unfold eTup
  rw [h, bnd_mk, if_pos (le_sz hl)]
theorem ev_if {t : TM S} {a b : EM S} {ρ : Slots} {s s1 s2 : S} {d : D} {k : Bool} (ht : t ρ s = some (k, s1)) (h : (if k = true then a ρ s1 else b ρ s1) = some (d, s2)) : eIf t a b ρ s = some (d, s2) := by
  unfold eIf
  rw [ht, bnd_mk, h]
theorem ev_not {a : EM S} {ρ : Slots} {s s1 : S} {x : D} {b : Bool} (ha : a ρ s = some (x, s1)) (hb : tru x = some b) : eNot a ρ s = some (.bool (!b), s1) := by
  unfold eNot
  rw [ha, bnd_mk, hb]
  rfl
theorem ev_lc {src : LM S} {vs : List Nat} {tg : GM} {tt : TM S} {te : EM S} {ρ : Slots} {s s1 s2 : S} {ds ys : List D} (h : src ρ s = some (ds, s1)) (h2 : lcGo tg tt te (wipeS ρ vs) ds s1 = some (ys, s2)) (hl : ys.length ≤ 16777216) : eLc src vs tg tt te ρ s = some (.list ys, s2) := by
  unfold eLc
  rw [h, bnd_mk, h2, bnd_mk, if_pos (le_sz hl)]
theorem ev_seqL {m : EM S} {ρ : Slots} {s s1 : S} {xs : List D} (h : m ρ s = some (.list xs, s1)) : lSeq m ρ s = some (xs, s1) := by
  unfold lSeq
  rw [h, bnd_mk]
theorem ev_seqT {m : EM S} {ρ : Slots} {s s1 : S} {xs : List D} (h : m ρ s = some (.tuple xs, s1)) : lSeq m ρ s = some (xs, s1) := by
  unfold lSeq
  rw [h, bnd_mk]
theorem ev_range1 {m : LM S} {ρ : Slots} {s s1 : S} {i : Int} (h : m ρ s = some ([.int i], s1)) (h1 : -1000000000000000000 ≤ i) (h2 : i ≤ 1000000000000000000) : lRange1 m ρ s = some (rangeD 0 i.toNat, s1) := by
  unfold lRange1
  rw [h, bnd_mk]
  simp only [bd62_ok h1 h2, if_true]
theorem ev_range2 {m : LM S} {ρ : Slots} {s s1 : S} {i j : Int} (h : m ρ s = some ([.int i, .int j], s1)) (h1 : -1000000000000000000 ≤ i) (h2 : i ≤ 1000000000000000000) (h3 : -1000000000000000000 ≤ j) (h4 : j ≤ 1000000000000000000) : lRange2 m ρ s = some (rangeD i (j - i).toNat, s1) := by
  unfold lRange2
  rw [h, bnd_mk]
  simp only [bd62_ok h1 h2, bd62_ok h3 h4, if_true, Bool.and_true, Bool.and_self, and_self]
theorem ev_of {m : EM S} {ρ : Slots} {s s1 : S} {b : Bool} (h : m ρ s = some (.bool b, s1)) : tOf m ρ s = some (b, s1) := by
  unfold tOf
  rw [h, bnd_mk]
theorem ev_tr {m : EM S} {ρ : Slots} {s s1 : S} {d : D} {b : Bool} (h : m ρ s = some (d, s1)) (hb : tru d = some b) : tTr m ρ s = some (b, s1) := by
  unfold tTr
  rw [h, bnd_mk, hb]
  rfl
theorem ev_no {t : TM S} {ρ : Slots} {s s1 : S} {b : Bool} (h : t ρ s = some (b, s1)) : tNo t ρ s = some (!b, s1) := by
  unfold tNo
  rw [h, bnd_mk]
theorem ev_an_t {a b : TM S} {ρ : Slots} {s s1 s2 : S} {k : Bool} (ha : a ρ s = some (true, s1)) (hb : b ρ s1 = some (k, s2)) : tAn a b ρ s = some (k, s2) := by
  unfold tAn
  rw [ha, bnd_mk, if_pos rfl, hb]
theorem ev_an_f {a b : TM S} {ρ : Slots} {s s1 : S} (ha : a ρ s = some (false, s1)) : tAn a b ρ s = some (false, s1) := by
  unfold tAn
  rw [ha, bnd_mk, if_neg Bool.false_ne_true]
theorem ev_oo_t {a b : TM S} {ρ : Slots} {s s1 : S} (ha : a ρ s = some (true, s1)) : tOo a b ρ s = some (true, s1) := by
  unfold tOo
  rw [ha, bnd_mk, if_pos rfl]
theorem ev_oo_f {a b : TM S} {ρ : Slots} {s s1 s2 : S} {k : Bool} (ha : a ρ s = some (false, s1)) (hb : b ρ s1 = some (k, s2)) : tOo a b ρ s = some (k, s2) := by
  unfold tOo
  rw [ha, bnd_mk, if_neg Bool.false_ne_true, hb]
theorem st_set {i : Nat} {m : EM S} {ρ : Slots} {s s1 : S} {d : D} (h : m ρ s = some (d, s1)) : sSet i m ρ s = some (.nx (ρ.set i (some d)), s1) := by
  unfold sSet
  rw [h, bnd_mk]
theorem st_par {i j : Nat} {m : LM S} {ρ : Slots} {s s1 : S} {x y : D} (h : m ρ s = some ([x, y], s1)) : sPar i j m ρ s = some (.nx ((ρ.set i (some x)).set j (some y)), s1) := by
  unfold sPar
  rw [h, bnd_mk]
theorem st_tg {m : EM S} {g : GM} {ρ ρ' : Slots} {s s1 : S} {d : D} (h : m ρ s = some (d, s1)) (hg : g d ρ = some ρ') : sTg m g ρ s = some (.nx ρ', s1) := by
  unfold sTg
  rw [h, bnd_mk, hg]
  rfl
theorem st_if_t {t : TM S} {a b : SM S} {ρ : Slots} {s s1 : S} {r : Option (Res × S)} (h : t ρ s = some (true, s1)) (ha : a ρ s1 = r) : sIf t a b ρ s = r := by
  unfold sIf
  rw [h, bnd_mk, if_pos rfl, ha]
theorem st_if_f {t : TM S} {a b : SM S} {ρ : Slots} {s s1 : S} {r : Option (Res × S)} (h : t ρ s = some (false, s1)) (ha : b ρ s1 = r) : sIf t a b ρ s = r := by
  unfold sIf
  rw [h, bnd_mk, if_neg Bool.false_ne_true, ha]
theorem st_if {t : TM S} {a b : SM S} {ρ : Slots} {s s1 : S} {k : Bool} {r : Option (Res × S)} (h : t ρ s = some (k, s1)) (ha : (if k = true then a ρ s1 else b ρ s1) = r) : sIf t a b ρ s = r := by
  unfold sIf
  rw [h, bnd_mk, ha]
theorem st_ret {m : EM S} {ρ : Slots} {s s1 : S} {d : D} (h : m ρ s = some (d, s1)) : sRet m ρ s = some (.rt d, s1) := by
  unfold sRet
  rw [h, bnd_mk]
theorem st_for {src : LM S} {tg : GM} {body : SM S} {ρ : Slots} {s s1 : S} {ds : List D} {r : Option (Res × S)} (h : src ρ s = some (ds, s1)) (h2 : forGo tg body ds ρ s1 = r) : sFor src tg body ρ s = r := by
  unfold sFor
  rw [h, bnd_mk, h2]
theorem st_ix {i : Nat} {mi me : EM S} {ρ : Slots} {s s1 s2 : S} {xs : List D} {k : Int} {n : Nat} {d : D} (he : me ρ s = some (d, s1)) (hv : ρ[i]? = some (some (.list xs))) (hk : mi ρ s1 = some (.int k, s2)) (hn : ixN xs.length k = some n) : sIx i mi me ρ s = some (.nx (ρ.set i (some (.list (xs.set n d)))), s2) := by
  unfold sIx
  rw [he, bnd_mk, ev_var hv, bnd_mk, hk, bnd_mk]
  simp only [hn, Option.bind_some]
theorem fn_rt {n : Nat} {body : SM S} {as : Slots} {s s1 : S} {d : D} (h : body (as ++ List.replicate (n - as.length) none) s = some (.rt d, s1)) : fnM n body as s = some (d, s1) := by
  unfold fnM
  rw [h, bnd_mk]
theorem dIx_list {xs : List D} {n : Nat} {d : D} (h : xs[n]? = some d) : dIx (.list xs) (.int (n : Int)) = some d := by
  have hl : n < xs.length := by
    rcases Nat.lt_or_ge n xs.length with q | q
    · exact q
    · rw [List.getElem?_eq_none q] at h
      exact absurd h (by simp)
  show atI xs n = some d
  rw [atI_lt hl, h]
theorem dIx_tuple {xs : List D} {n : Nat} {d : D} (h : xs[n]? = some d) : dIx (.tuple xs) (.int (n : Int)) = some d := by
  have hl : n < xs.length := by
    rcases Nat.lt_or_ge n xs.length with q | q
    · exact q
    · rw [List.getElem?_eq_none q] at h
      exact absurd h (by simp)
  show atI xs n = some d
  rw [atI_lt hl, h]
end G
namespace G
open PySem L2
variable {S : Type}
theorem lcGo_map {α : Type} {tg : GM} {tt : TM S} {te : EM S} {ρ : Slots} {s : S} {l : List α} (f : α → D) (p : α → Bool) (g : α → D) (h : ∀ x ∈ l, ∃ ρ1, tg (f x) ρ = some ρ1 ∧ tt ρ1 s = some (p x, s) ∧ (p x = true → te ρ1 s = some (g x, s))) :
    lcGo tg tt te ρ (l.map f) s = some ((l.filter p).map g, s) := by
  induction l with
  | nil => rfl
  | cons x l ih =>
    obtain ⟨ρ1, e1, e2, e3⟩ := h x List.mem_cons_self
    have ih := ih fun d hd => h d (List.mem_cons_of_mem _ hd)
    rw [List.map_cons]
    unfold lcGo
    rw [e1]
    show bnd (tt ρ1 s) _ = _
    rw [e2, bnd_mk]
    cases hp : p x with
    | true => rw [if_pos rfl, e3 hp, bnd_mk, ih, bnd_mk, List.filter_cons_of_pos hp, List.map_cons]
    | false => rw [if_neg Bool.false_ne_true, ih, List.filter_cons_of_neg (by simp [hp])]
/-- a comprehension over range(n) -/
theorem lcGo_range {tg : GM} {tt : TM S} {te : EM S} {ρ : Slots} {s : S} {n : Nat} (p : Nat → Bool) (g : Nat → D) (h : ∀ x, x < n → ∃ ρ1, tg (.int (x : Int)) ρ = some ρ1 ∧ tt ρ1 s = some (p x, s) ∧ (p x = true → te ρ1 s = some (g x, s))) :
    lcGo tg tt te ρ (rangeD 0 n) s = some (((List.range n).filter p).map g, s) := by
  have e : rangeD 0 n = (List.range n).map fun x : Nat => .int (x : Int) := by
    unfold rangeD
    exact List.map_congr_left fun x _ => by rw [Int.zero_add]
  rw [e]
  exact lcGo_map _ p g fun x hx => h x (List.mem_range.mp hx)
theorem ev_and_t {a b : EM S} {ρ : Slots} {s s1 s2 : S} {x y : D} (ha : a ρ s = some (x, s1)) (ht : tru x = some true) (hb : b ρ s1 = some (y, s2)) : eAnd a b ρ s = some (y, s2) := by
  unfold eAnd
  rw [ha, bnd_mk, ht]
  exact hb
theorem ev_and_f {a b : EM S} {ρ : Slots} {s s1 : S} {x : D} (ha : a ρ s = some (x, s1)) (ht : tru x = some false) : eAnd a b ρ s = some (x, s1) := by
  unfold eAnd
  rw [ha, bnd_mk, ht]
  rfl
theorem dPow_int {i j : Int} (h : 0 ≤ j ∧ j ≤ 1000000 ∧ i.natAbs < 2 ^ 64) : dPow (.int i) (.int j) = some (.int (i ^ j.toNat)) := if_pos h
theorem slots_ex (n : Nat) (ρ : Slots) (h : ρ.length = n + 1) : ∃ x r, ρ = x :: r ∧ r.length = n := by
  cases ρ with
  | nil => cases h
  | cons x r => exact ⟨x, r, rfl, Nat.succ.inj h⟩
end G
namespace G
open PySem L2
variable {S : Type}
theorem dShl_int {i j : Int} (h1 : 0 ≤ j) (h2 : (Builtin.Int.intBits i : Int) + j ≤ 2 ^ 27) : dShl (.int i) (.int j) = some (.int (i * 2 ^ j.toNat)) := if_pos (And.intro h1 h2)
theorem dShr_int {i j : Int} (h1 : 0 ≤ j) : dShr (.int i) (.int j) = some (.int (i / 2 ^ j.toNat)) := if_pos h1
def intsD (xs : List Nat) : D := .list (xs.map fun n : Nat => .int (n : Int))
theorem shaped_nats (xs : List Nat) : SeqAt.shaped (intsD xs) = true := by
  have := PySem.W.shaped_ints (xs.map fun n : Nat => (n : Int))
  rw [List.map_map] at this
  exact this
theorem dNe_self {d : D} (h : SeqAt.shaped d = true) : dNe d d = some (.bool false) := by
  unfold dNe
  rw [if_pos ⟨h, h⟩, SeqAt.eqv_refl d (SeqAt.canLay_of_shaped h)]
  rfl
theorem dEq_self {d : D} (h : SeqAt.shaped d = true) : dEq d d = some (.bool true) := by
  unfold dEq
  rw [if_pos ⟨h, h⟩, SeqAt.eqv_refl d (SeqAt.canLay_of_shaped h)]
/-- a table of numbers -/
def itab (f : Nat → Nat) (m : Nat) : List D := (List.range m).map fun n => .int ((f n : Nat) : Int)
theorem itab_length (f : Nat → Nat) (m : Nat) : (itab f m).length = m := by simp [itab]
theorem itab_get {f : Nat → Nat} {m n : Nat} (h : n < m) : (itab f m)[n]? = some (.int ((f n : Nat) : Int)) := by
  unfold itab
  rw [List.getElem?_map, List.getElem?_range h]
  rfl
theorem itab_congr {p q : Nat → Nat} {m : Nat} (h : ∀ n, n < m → p n = q n) : itab p m = itab q m := by
  unfold itab
  exact List.map_congr_left fun n hn => by rw [h n (List.mem_range.mp hn)]
theorem itab_set {p : Nat → Nat} {m n v : Nat} : (itab p m).set n (.int (v : Int)) = itab (fun k => if k = n then v else p k) m := by
  refine List.ext_getElem? fun i => ?_
  by_cases hi : i < m
  · rw [itab_get hi]
    by_cases e : n = i
    · subst e
      rw [List.getElem?_set_self (by rw [itab_length]; exact hi), if_pos rfl]
    · rw [List.getElem?_set_ne e, itab_get hi, if_neg (fun q => e q.symm)]
  · rw [List.getElem?_eq_none (by rw [List.length_set, itab_length]; omega), List.getElem?_eq_none (by rw [itab_length]; omega)]
theorem itab_init (v : Nat) (m : Nat) : PyData.int (v : Int) :: List.replicate m (PyData.int 0) = itab (fun n => if n = 0 then v else 0) (m + 1) := by
  unfold itab
  rw [List.range_succ_eq_map, List.map_cons, List.map_map]
  congr 1
  refine List.ext_getElem? fun i => ?_
  by_cases hi : i < m
  · rw [List.getElem?_replicate, if_pos hi, List.getElem?_map, List.getElem?_range hi]
    rfl
  · rw [List.getElem?_replicate, if_neg hi, List.getElem?_eq_none (by simp; omega)]
/-- a filter over a range that is long enough -/
theorem filter_range {p : Nat → Bool} {M N : Nat} (h : ∀ n, p n = true → n < M) (hl : M ≤ N) : (List.range N).filter p = (List.range M).filter p := by
  obtain ⟨k, rfl⟩ := Nat.exists_eq_add_of_le hl
  rw [List.range_add, List.filter_append]
  have : ((List.range k).map fun x => M + x).filter p = [] := by
    refine List.filter_eq_nil_iff.mpr fun n hn hp => ?_
    obtain ⟨m, _, rfl⟩ := List.mem_map.mp hn
    have := h _ hp
    omega
  rw [this, List.append_nil]
theorem filter_range2 {p : Nat → Bool} {M N : Nat} (h : ∀ n, p n = true → n < M) (h' : ∀ n, p n = true → n < N) : (List.range N).filter p = (List.range M).filter p := by
  rcases Nat.le_total M N with l | l
  · exact filter_range h l
  · exact (filter_range h' l).symm
theorem rowD_get {row : List Nat} {i : Nat} {d : D} (h : (rowD row)[i]? = some d) : ∃ a, row[i]? = some a ∧ d = .int (a : Int) := by
  unfold rowD at h
  rw [List.getElem?_map] at h
  cases e : row[i]? with
  | none => rw [e] at h; cases h
  | some a => rw [e] at h; cases h; exact ⟨a, rfl, rfl⟩
end G
namespace G
open PySem L2
variable {S : Type}
theorem ev_an {a b : TM S} {ρ : Slots} {s s1 : S} {x y : Bool} (ha : a ρ s = some (x, s1)) (hb : x = true → b ρ s1 = some (y, s1)) : tAn a b ρ s = some (x && y, s1) := by
  cases x with
  | true => exact ev_an_t ha (hb rfl)
  | false => exact ev_an_f ha
theorem ev_oo {a b : TM S} {ρ : Slots} {s s1 : S} {x y : Bool} (ha : a ρ s = some (x, s1)) (hb : x = false → b ρ s1 = some (y, s1)) : tOo a b ρ s = some (x || y, s1) := by
  cases x with
  | false => exact ev_oo_f ha (hb rfl)
  | true => exact ev_oo_t ha
theorem st_app {i : Nat} {m : EM S} {ρ : Slots} {s s1 : S} {xs : List D} {d : D} (hv : ρ[i]? = some (some (.list xs))) (h : m ρ s = some (d, s1)) (hl : xs.length < 16777216) : sApp i m ρ s = some (.nx (ρ.set i (some (.list (xs ++ [d])))), s1) := by
  unfold sApp
  rw [ev_var hv, bnd_mk, h, bnd_mk]
  have : xs.length < sizeLine := by rw [sizeLine_eq]; exact hl
  have h2 : xs.length ≤ sizeLine := by omega
  have h3 : xs.length + 1 ≤ sizeLine := by omega
  simp [this, h2, h3]
/-- a comprehension without a test -/
theorem lcGo_all {α : Type} {tg : GM} {te : EM S} {ρ : Slots} {s : S} {l : List α} (f : α → D) (g : α → D) (h : ∀ x ∈ l, ∃ ρ1, tg (f x) ρ = some ρ1 ∧ te ρ1 s = some (g x, s)) : lcGo tg tYe te ρ (l.map f) s = some (l.map g, s) := by
  have := lcGo_map (tt := tYe) (te := te) (tg := tg) (ρ := ρ) (s := s) (l := l) f (fun _ => true) g (fun x hx => by
    obtain ⟨ρ1, e1, e2⟩ := h x hx
    exact ⟨ρ1, e1, rfl, fun _ => e2⟩)
  rwa [List.filter_eq_self.mpr (fun _ _ => rfl)] at this
theorem gSortSet_nats {xs ys : List Nat} (ha : ys.Pairwise (· < ·)) (hm : ∀ z, z ∈ ys ↔ z ∈ xs) (h1 : xs.length ≤ 4000) : gSortSet (intsD xs) = some (intsD ys) := by
  have e1 : xs.map (fun n : Nat => PyData.int (n : Int)) = (xs.map fun n : Nat => (n : Int)).map PyData.int := by rw [List.map_map]; rfl
  have e2 : sortU (xs.map fun n : Nat => (n : Int)) = ys.map fun n : Nat => (n : Int) := by
    refine asc_unique (sortU_asc _) (List.pairwise_map.mpr (ha.imp fun h => by omega)) fun z => ?_
    rw [sortU_mem, List.mem_map, List.mem_map]
    constructor
    · rintro ⟨n, hn, e⟩; exact ⟨n, (hm n).mpr hn, e⟩
    · rintro ⟨n, hn, e⟩; exact ⟨n, (hm n).mp hn, e⟩
  unfold intsD
  rw [e1]
  show (ints? _).bind _ = _
  rw [ints?_map, Option.bind_some, if_pos (by rw [List.length_map]; exact h1), e2, List.map_map]
  rfl
theorem range_asc (N : Nat) (p : Nat → Bool) : ((List.range N).filter p).Pairwise (· < ·) := List.Pairwise.filter _ List.pairwise_lt_range
end G

/-! while without a bound told ahead; the generator of drawn numbers goes round. -/
namespace G
open PySem PySem.Spec PyProof.Rows L2
section
variable {S : Type}
theorem whGo_mono {t : TM S} {b : SM S} : ∀ (n : Nat) {ρ : Slots} {s : S} {r : Res × S}, whGo t b n ρ s = some r → whGo t b (n + 1) ρ s = some r
  | 0, _, _, _, h => by cases h
  | n + 1, ρ, s, r, h => by
    unfold whGo at h ⊢
    obtain ⟨k, s1, e1, h⟩ := bnd_some h
    rw [e1, bnd_mk]
    cases k with
    | false => exact h
    | true =>
      rw [if_pos rfl] at h ⊢
      obtain ⟨x, s2, e2, h⟩ := bnd_some h
      rw [e2, bnd_mk]
      cases x with
      | nx ρ2 => exact whGo_mono n h
      | ct ρ2 => exact whGo_mono n h
      | bk ρ2 => exact h
      | rt d => exact h
theorem whGo_le {t : TM S} {b : SM S} {n m : Nat} (hl : n ≤ m) {ρ : Slots} {s : S} {r : Res × S} (h : whGo t b n ρ s = some r) : whGo t b m ρ s = some r := by
  obtain ⟨k, rfl⟩ := Nat.exists_eq_add_of_le hl
  induction k with
  | zero => exact h
  | succ k ih => exact whGo_mono _ (ih (by omega))
noncomputable def whI (t : TM S) (b : SM S) : SM S := fun ρ s => @dite _ (∃ n r, whGo t b n ρ s = some r) (Classical.propDecidable _) (fun h => some (Classical.choose (Classical.choose_spec h))) (fun _ => none)
theorem whI_some {t : TM S} {b : SM S} {ρ : Slots} {s : S} {r : Res × S} (h : whI t b ρ s = some r) : ∃ n, whGo t b n ρ s = some r := by
  unfold whI at h
  by_cases q : ∃ n r, whGo t b n ρ s = some r
  · rw [dif_pos q] at h
    have := Classical.choose_spec (Classical.choose_spec q)
    rw [Option.some.inj h] at this
    exact ⟨_, this⟩
  · rw [dif_neg q] at h
    cases h
theorem whI_of {t : TM S} {b : SM S} {n : Nat} {ρ : Slots} {s : S} {r : Res × S} (h : whGo t b n ρ s = some r) : whI t b ρ s = some r := by
  have q : ∃ n r, whGo t b n ρ s = some r := ⟨n, r, h⟩
  have e : whI t b ρ s = some (Classical.choose (Classical.choose_spec q)) := by
    unfold whI
    rw [dif_pos q]
  rw [e]
  have h2 := Classical.choose_spec (Classical.choose_spec q)
  have a := whGo_le (Nat.le_max_left n (Classical.choose q)) h
  have b := whGo_le (Nat.le_max_right n (Classical.choose q)) h2
  rw [a] at b
  exact b.symm
/-- a turn of a while -/
theorem whI_turn {t : TM S} {b : SM S} {ρ ρ2 : Slots} {s s1 s2 : S} {r : Res × S} (h1 : t ρ s = some (true, s1)) (h2 : b ρ s1 = some (.nx ρ2, s2)) (h3 : whI t b ρ2 s2 = some r) : whI t b ρ s = some r := by
  obtain ⟨n, e⟩ := whI_some h3
  refine whI_of (n := n + 1) ?_
  unfold whGo
  rw [h1, bnd_mk, if_pos rfl, h2, bnd_mk]
  exact e
theorem whI_ret {t : TM S} {b : SM S} {ρ : Slots} {s s1 s2 : S} {d : D} (h1 : t ρ s = some (true, s1)) (h2 : b ρ s1 = some (.rt d, s2)) : whI t b ρ s = some (.rt d, s2) := by
  refine whI_of (n := 1) ?_
  unfold whGo
  rw [h1, bnd_mk, if_pos rfl, h2, bnd_mk]
theorem whI_by {t : TM S} {body : SM S} (I : Slots → S → Prop) (μ : Slots → S → Nat) (R : Slots → S → Prop)
    (hb : ∀ ρ s, I ρ s → (∃ s1, t ρ s = some (false, s1) ∧ R ρ s1) ∨ (∃ s1 ρ2 s2, t ρ s = some (true, s1) ∧ body ρ s1 = some (.nx ρ2, s2) ∧ I ρ2 s2 ∧ μ ρ2 s2 < μ ρ s)) (ρ : Slots) (s : S) (h : I ρ s) : ∃ ρ' s', whI t body ρ s = some (.nx ρ', s') ∧ R ρ' s' := by
  obtain ⟨ρ', s', e, r⟩ := whGo_by I μ R hb (μ ρ s + 1) ρ s h (Nat.lt_succ_self _)
  exact ⟨ρ', s', whI_of e, r⟩
end
section
variable {S : Type} {f : Fam S} {own oB oC : List Nat}
theorem ws_whI {c : Expr} {body : List Stmt} {mc : TM S} {mb : SM S} {pos : Pos} (hc : WT f own c mc) (hb : WSs f own body mb own own own) (hp : ∀ i, PassesOwn (model (f.X i).prog (f.X i).w) (f.X i).A (f.X i).env (f.X i).xe := by intro _; exact PassesOwn.never) :
    WS f own (.While c body [] pos) (whI mc mb) own oB oC := by
  obtain ⟨tc, pc, dc⟩ := hc.ex
  obtain ⟨tb, pb, db⟩ := hb.ex
  refine ⟨_, fun i => ps_while (hp i) (pc i) (pb i), ?_⟩
  intro F0 H0 F H ρ s σ st r s' e De ha
  obtain ⟨n, e⟩ := whI_some e
  refine ⟨fun m σ H' => ∃ F' ρ' u', Same F F' ∧ Stt f.K f.A f.sv own F0 H0 F' H' ρ' u' σ ∧ whGo mc mb m ρ' u' = some (r, s'), ⟨n, F, ρ, s, Same.refl F, st, e⟩, ?_⟩
  rintro m σ1 H2 ⟨F2, ρ2, u2, sm2, st2, e2⟩
  cases m with
  | zero => cases e2
  | succ m =>
    unfold whGo at e2
    obtain ⟨k, s3, k1, e2⟩ := bnd_some e2
    refine dc _ _ _ _ _ _ _ st2 k s3 k1 _ fun F3 H3 E3 r3 => ?_
    have st3 := st2.next E3 r3
    have sm3 := sm2.trans E3.sF
    cases k with
    | false =>
      cases e2
      exact iteF (ha F3 H3 σ1 sm3 st3)
    | true =>
      rw [if_pos rfl] at e2
      obtain ⟨rb, s4, k2, e2⟩ := bnd_some e2
      refine iteT ⟨fun σ' H' => ∃ F' ρ' u', Same F F' ∧ Stt f.K f.A f.sv own F0 H0 F' H' ρ' u' σ' ∧ whGo mc mb m ρ' u' = some (r, s'), fun σ' H' w => ⟨m, Nat.lt_succ_self m, w⟩, ?_⟩
      refine db _ _ _ _ _ _ _ st3 rb s4 k2 _ ?_
      cases rb with
      | nx ρ5 => exact fun F5 H5 σ5 q5 st5 => ⟨F5, ρ5, s4, sm3.trans q5, st5, e2⟩
      | ct ρ5 => exact fun F5 H5 σ5 q5 st5 => ⟨F5, ρ5, s4, sm3.trans q5, st5, e2⟩
      | bk ρ5 =>
        cases e2
        exact fun F5 H5 σ5 q5 st5 => ha F5 H5 σ5 (sm3.trans q5) st5
      | rt d =>
        cases e2
        exact ha
end
/-! ### the generator of drawn numbers -/
theorem nodup_bd : ∀ (N : Nat) (l : List Nat), l.Nodup → (∀ x ∈ l, x < N) → l.length ≤ N
  | 0, [], _, _ => Nat.le_refl _
  | 0, x :: l, _, h => absurd (h x List.mem_cons_self) (Nat.not_lt_zero _)
  | N + 1, l, h1, h2 => by
    by_cases hm : N ∈ l
    · have h3 := nodup_bd N (l.erase N) (h1.erase N) fun x hx => by
        have := h2 x (List.mem_of_mem_erase hx)
        have := (h1.mem_erase_iff.mp hx).1
        omega
      rw [List.length_erase_of_mem hm] at h3
      omega
    · have := nodup_bd N l h1 fun x hx => by
        have := h2 x hx
        have : x ≠ N := fun e => hm (e ▸ hx)
        omega
      omega
theorem hits {N : Nat} {f : Nat → Nat} (hf : ∀ n, n < N → f n < N) (hi : ∀ i j, i < j → j < N → f i ≠ f j) {k : Nat} (hk : k < N) : ∃ n, n < N ∧ f n = k := by
  by_cases h : ∃ n, n < N ∧ f n = k
  · exact h
  · exfalso
    have hn : (k :: (List.range N).map f).Nodup := by
      refine List.nodup_cons.mpr ⟨fun q => ?_, ?_⟩
      · obtain ⟨n, h1, h2⟩ := List.mem_map.mp q
        exact h ⟨n, List.mem_range.mp h1, h2⟩
      · refine List.pairwise_map.mpr (List.pairwise_iff_getElem.mpr fun i j h1 h2 h3 => ?_)
        rw [List.getElem_range, List.getElem_range]
        exact hi i j h3 (by simpa using h2)
    have := nodup_bd N _ hn fun x hx => by
      rcases List.mem_cons.mp hx with e | e
      · rw [e]; exact hk
      · obtain ⟨n, h1, rfl⟩ := List.mem_map.mp e
        exact hf n (List.mem_range.mp h1)
    rw [List.length_cons, List.length_map, List.length_range] at this
    omega
def pwm (b m : Nat) : Nat → Nat → Nat
  | 0, _ => 1 % m
  | f + 1, e => if e = 0 then 1 % m else (if e % 2 = 0 then pwm b m f (e / 2) * pwm b m f (e / 2) % m else pwm b m f (e / 2) * pwm b m f (e / 2) % m * b % m)
theorem pwm_eq (b m : Nat) : ∀ f e, e < 2 ^ f → pwm b m f e = b ^ e % m
  | 0, e, h => by
    have : e = 0 := by simpa using h
    subst this
    rfl
  | f + 1, e, h => by
    unfold pwm
    split
    · rename_i h0; subst h0; rfl
    · have h2 : e / 2 < 2 ^ f := by rw [Nat.pow_succ] at h; omega
      rw [pwm_eq b m f _ h2, ← Nat.mul_mod, ← Nat.pow_add]
      split
      · rw [show e / 2 + e / 2 = e by omega]
      · rw [Nat.mod_mul_mod, ← Nat.pow_succ, show (e / 2 + e / 2).succ = e by omega]
theorem pow_mod_one {g M a b : Nat} (ha : g ^ a % M = 1 % M) (hb : g ^ b % M = 1 % M) : g ^ (a % b) % M = 1 % M := by
  have h := Nat.div_add_mod a b
  have e : g ^ a % M = g ^ (a % b) % M := by
    conv => lhs; rw [← h, Nat.pow_add, Nat.pow_mul, Nat.mul_mod, Nat.pow_mod, hb, ← Nat.pow_mod, Nat.one_pow, ← Nat.mul_mod, Nat.one_mul]
  rw [← e, ha]
theorem pow_gcd_one {g M : Nat} : ∀ a b : Nat, g ^ a % M = 1 % M → g ^ b % M = 1 % M → g ^ (Nat.gcd a b) % M = 1 % M := by
  intro a
  induction a using Nat.strongRecOn with
  | _ a ih =>
    intro b ha hb
    by_cases h : a = 0
    · subst h; rwa [Nat.gcd_zero_left]
    · rw [Nat.gcd_rec]
      exact ih (b % a) (Nat.mod_lt _ (by omega)) a (pow_mod_one hb ha) ha
def smallPrime (p : Nat) : Bool := (List.range (p + 1)).all fun c => c == 0 || c == 1 || c == p || !(p % c == 0)
theorem cop_small {e p : Nat} (hp : smallPrime p = true) (hp0 : 0 < p) (h : e % p ≠ 0) : Nat.Coprime e p := by
  have h1 : Nat.gcd e p ∣ p := Nat.gcd_dvd_right e p
  have h2 := Nat.le_of_dvd hp0 h1
  have h3 := List.all_eq_true.mp hp (Nat.gcd e p) (List.mem_range.mpr (by omega))
  have h4 : 0 < Nat.gcd e p := Nat.gcd_pos_of_pos_right e hp0
  have h5 : p % Nat.gcd e p = 0 := Nat.mod_eq_zero_of_dvd h1
  simp only [Bool.or_eq_true, beq_iff_eq, Bool.not_eq_true', beq_eq_false_iff_ne] at h3
  rcases h3 with ((h3 | h3) | h3) | h3
  · omega
  · exact h3
  · exact absurd (Nat.mod_eq_zero_of_dvd (h3 ▸ Nat.gcd_dvd_left e p)) h
  · exact absurd h5 h3
def chkD (M : Nat) : Nat → Nat → Bool
  | 0, lo => decide (lo < 2) || !(M % lo == 0)
  | d + 1, lo => chkD M d lo && chkD M d (lo + 2 ^ d)
theorem chkD_ok {M : Nat} : ∀ d lo, chkD M d lo = true → ∀ k, lo ≤ k → k < lo + 2 ^ d → 2 ≤ k → M % k ≠ 0
  | 0, lo, h, k, h1, h2, h3 => by
    have : k = lo := by rw [Nat.pow_zero] at h2; omega
    subst this
    unfold chkD at h
    simp only [Bool.or_eq_true, decide_eq_true_eq, Bool.not_eq_true', beq_eq_false_iff_ne] at h
    rcases h with h | h
    · omega
    · exact h
  | d + 1, lo, h, k, h1, h2, h3 => by
    unfold chkD at h
    obtain ⟨a, b⟩ := Bool.and_eq_true_iff.mp h
    rw [Nat.pow_succ] at h2
    rcases Nat.lt_or_ge k (lo + 2 ^ d) with q | q
    · exact chkD_ok d lo a k h1 q h3
    · exact chkD_ok d (lo + 2 ^ d) b k q (by omega) h3
theorem cop_by {M : Nat} {d : Nat} (hck : chkD M d 0 = true) (hM : M < 2 ^ d * 2 ^ d) {y : Nat} (h0 : 0 < y) (h1 : y < M) : Nat.gcd y M = 1 := by
  have d1 : Nat.gcd y M ∣ M := Nat.gcd_dvd_right _ _
  have d2 := Nat.le_of_dvd h0 (Nat.gcd_dvd_left y M)
  have d3 : 0 < Nat.gcd y M := Nat.gcd_pos_of_pos_left _ h0
  generalize Nat.gcd y M = c at *
  by_cases h : c = 1
  · exact h
  · exfalso
    have ck := chkD_ok d 0 hck
    rcases Nat.lt_or_ge c (2 ^ d) with q | q
    · exact ck c (by omega) (by omega) (by omega) (Nat.mod_eq_zero_of_dvd d1)
    · obtain ⟨e, he⟩ := d1
      have e0 : 2 ≤ e := by
        rcases Nat.lt_or_ge e 2 with z | z
        · have : e = 0 ∨ e = 1 := by omega
          rcases this with z | z
          · subst z; omega
          · subst z; omega
        · exact z
      have e1 : e < 2 ^ d := by
        rcases Nat.lt_or_ge e (2 ^ d) with z | z
        · exact z
        · have := Nat.mul_le_mul q z
          omega
      exact ck e (by omega) (by omega) e0 (Nat.mod_eq_zero_of_dvd ⟨c, by rw [he, Nat.mul_comm]⟩)
section
variable {g M N f : Nat} (hMN : M = N + 1) (hN2 : 2 ≤ N) (hNf : N < 2 ^ f) (hg : Nat.Coprime g M) (hg0 : 0 < g) (hcop : ∀ y, 0 < y → y < M → Nat.gcd y M = 1) (hN : pwm g M f N = 1 % M)
  (ps : List Nat) (hps : ∀ p ∈ ps, 0 < p ∧ smallPrime p = true ∧ pwm g M f (N / p) ≠ 1 % M) (hfac : ∀ e, e ∣ N → (∀ p ∈ ps, Nat.Coprime e p) → e = 1)
include hMN hN2 hNf hN ps hps hfac
theorem ord_gen {k : Nat} (h0 : 0 < k) (h1 : k < N) : g ^ k % M ≠ 1 % M := by
  intro hk
  rw [pwm_eq g M f N hNf] at hN
  have hd : g ^ (Nat.gcd k N) % M = 1 % M := pow_gcd_one k N hk hN
  obtain ⟨e, he⟩ := Nat.gcd_dvd_right k N
  have hd2 := Nat.le_of_dvd h0 (Nat.gcd_dvd_left k N)
  generalize Nat.gcd k N = d at *
  have he1 : e ≠ 1 := fun q => by
    subst q
    rw [Nat.mul_one] at he
    omega
  refine he1 (hfac e ⟨d, by rw [Nat.mul_comm]; exact he⟩ fun p hp => ?_)
  obtain ⟨p0, sp, hx⟩ := hps p hp
  refine cop_small sp p0 fun hz => ?_
  obtain ⟨e', he'⟩ := Nat.dvd_of_mod_eq_zero hz
  refine hx ?_
  have h2 : N / p = d * e' := by
    rw [he, he', show d * (p * e') = d * e' * p by rw [Nat.mul_comm p, Nat.mul_assoc], Nat.mul_div_cancel _ p0]
  rw [pwm_eq g M f (N / p) (Nat.lt_of_le_of_lt (Nat.div_le_self N p) hNf), h2, Nat.pow_mul, Nat.pow_mod, hd, ← Nat.pow_mod, Nat.one_pow]
include hg hg0 hcop
/-- every number but 0 comes round -/
theorem round_gen {y z : Nat} (hy : 0 < y) (hy1 : y < M) (hz : 0 < z) (hz1 : z < M) : ∃ n, g ^ n * y % M = z := by
  have M1 : 1 % M = 1 := Nat.mod_eq_of_lt (by omega)
  have cp : ∀ n, Nat.Coprime (g ^ n * y) M := fun n => Nat.Coprime.mul_left (Nat.Coprime.pow_left n hg) (hcop y hy hy1)
  have pos : ∀ n, 0 < g ^ n * y % M := fun n => by
    rcases Nat.eq_zero_or_pos (g ^ n * y % M) with q | q
    · have h := Nat.gcd_eq_right (Nat.dvd_of_mod_eq_zero q)
      rw [cp n] at h
      omega
    · exact q
  obtain ⟨n, _, hn⟩ := hits (N := N) (f := fun n => g ^ n * y % M - 1) (fun n _ => by
      have := Nat.mod_lt (g ^ n * y) (show 0 < M by omega)
      have := pos n
      show g ^ n * y % M - 1 < N
      omega) (fun i j hij hj he => by
      have a := pos i
      have b := pos j
      have e : g ^ i * y % M = g ^ j * y % M := by
        have : g ^ i * y % M - 1 = g ^ j * y % M - 1 := he
        omega
      obtain ⟨k, rfl⟩ := Nat.exists_eq_add_of_lt hij
      have e2 : g ^ (i + k + 1) * y = g ^ i * y * g ^ (k + 1) := by
        rw [show i + k + 1 = i + (k + 1) by omega, Nat.pow_add, Nat.mul_assoc, Nat.mul_assoc, Nat.mul_comm y]
      have h1 : 1 ≤ g ^ (k + 1) := Nat.pow_pos hg0
      have e3 : M ∣ g ^ i * y * (g ^ (k + 1) - 1) := by
        rw [Nat.mul_sub, Nat.mul_one, ← e2]
        exact Nat.dvd_of_mod_eq_zero (Nat.sub_mod_eq_zero_of_mod_eq e.symm)
      have e4 := (cp i).symm.dvd_of_dvd_mul_left e3
      have e5 : g ^ (k + 1) % M = 1 % M := by
        obtain ⟨c, hc⟩ := e4
        have : g ^ (k + 1) = M * c + 1 := by omega
        rw [this, Nat.mul_add_mod]
      exact ord_gen hMN hN2 hNf hN ps hps hfac (by omega) (by omega) e5) (show z - 1 < N by omega)
  refine ⟨n, ?_⟩
  have := pos n
  have hn : g ^ n * y % M - 1 = z - 1 := hn
  omega
end
end G

/-! The generator of drawn numbers comes to every place but one. -/
namespace G
open PySem L2
def itG (g c M : Nat) : Nat → Nat → Nat
  | 0, x => x
  | n + 1, x => itG g c M n ((x * g + c) % M)
theorem itG_succ {g c M n x : Nat} : itG g c M (n + 1) x = (itG g c M n x * g + c) % M := by
  induction n generalizing x with
  | zero => rfl
  | succ n ih =>
    show itG g c M (n + 1) ((x * g + c) % M) = _
    rw [ih]
    rfl
theorem itG_add {g c M a b x : Nat} : itG g c M (a + b) x = itG g c M b (itG g c M a x) := by
  induction a generalizing x with
  | zero => rw [Nat.zero_add]; rfl
  | succ a ih =>
    rw [show a + 1 + b = (a + b) + 1 by omega]
    show itG g c M (a + b) _ = itG g c M b (itG g c M a _)
    exact ih
theorem itG_lt {g c M n x : Nat} (hM : 0 < M) (hx : x < M) : itG g c M n x < M := by
  cases n with
  | zero => exact hx
  | succ n => rw [itG_succ]; exact Nat.mod_lt _ hM
theorem itG_pow {g c M K : Nat} (hK : (c + K) % M = g * K % M) (n x : Nat) : (itG g c M n x + K) % M = g ^ n * (x + K) % M := by
  induction n with
  | zero => rw [Nat.pow_zero, Nat.one_mul]; rfl
  | succ n ih =>
    have e1 : (itG g c M (n + 1) x + K) % M = (itG g c M n x * g + (c + K)) % M := by
      rw [itG_succ, Nat.mod_add_mod, Nat.add_assoc]
    have e2 : (itG g c M n x * g + (c + K)) % M = (itG g c M n x * g + g * K) % M := by
      rw [Nat.add_mod, hK, ← Nat.add_mod]
    have e3 : itG g c M n x * g + g * K = g * (itG g c M n x + K) := by rw [Nat.mul_add, Nat.mul_comm g (itG g c M n x)]
    rw [e1, e2, e3, Nat.mul_mod, ih, ← Nat.mul_mod, ← Nat.mul_assoc, Nat.pow_succ, Nat.mul_comm g]
theorem itG_round {g c M N f K : Nat} (hMN : M = N + 1) (hN2 : 2 ≤ N) (hNf : N < 2 ^ f) (hg : Nat.Coprime g M) (hg0 : 0 < g) (hcop : ∀ y, 0 < y → y < M → Nat.gcd y M = 1) (hN : pwm g M f N = 1 % M)
    (ps : List Nat) (hps : ∀ p ∈ ps, 0 < p ∧ smallPrime p = true ∧ pwm g M f (N / p) ≠ 1 % M) (hfac : ∀ e, e ∣ N → (∀ p ∈ ps, Nat.Coprime e p) → e = 1) (hK : (c + K) % M = g * K % M) {x z : Nat}
    (hx : x < M) (hz : z < M) (hx1 : (x + K) % M ≠ 0) (hz1 : (z + K) % M ≠ 0) : ∃ n, itG g c M n x = z := by
  have hM : 0 < M := by omega
  obtain ⟨n, hn⟩ := round_gen hMN hN2 hNf hg hg0 hcop hN ps hps hfac (Nat.pos_of_ne_zero hx1) (Nat.mod_lt (x + K) hM) (Nat.pos_of_ne_zero hz1) (Nat.mod_lt (z + K) hM)
  refine ⟨n, ?_⟩
  have h1 := itG_pow hK n x
  rw [← Nat.mul_mod_mod, hn] at h1
  have h2 := itG_lt (g := g) (c := c) (n := n) hM hx
  have a1 := Nat.div_add_mod (itG g c M n x + K) M
  have a2 := Nat.div_add_mod (z + K) M
  rw [h1] at a1
  generalize (z + K) % M = r at *
  generalize itG g c M n x = w at *
  have q : (w + K) / M = (z + K) / M := by
    rcases Nat.lt_trichotomy ((w + K) / M) ((z + K) / M) with l | l | l
    · have : M * ((w + K) / M + 1) ≤ M * ((z + K) / M) := Nat.mul_le_mul_left M l
      rw [Nat.mul_add] at this
      omega
    · exact l
    · have : M * ((z + K) / M + 1) ≤ M * ((w + K) / M) := Nat.mul_le_mul_left M l
      rw [Nat.mul_add] at this
      omega
  rw [q] at a1
  omega
theorem m31_pws : ∀ p ∈ [2, 3, 7, 11, 31, 151, 331], 0 < p ∧ smallPrime p = true ∧ pwm 48271 2147483647 31 (2147483646 / p) ≠ 1 % 2147483647 := by decide +kernel
theorem m31_fac : ∀ e, e ∣ 2147483646 → (∀ p ∈ [2, 3, 7, 11, 31, 151, 331], Nat.Coprime e p) → e = 1 := by
  intro e he h
  have k2 := h 2 (by decide)
  have k3 := h 3 (by decide)
  have k7 := h 7 (by decide)
  have k11 := h 11 (by decide)
  have k31 := h 31 (by decide)
  have k151 := h 151 (by decide)
  have k331 := h 331 (by decide)
  have c : Nat.Coprime e (2 * 3 * 3 * 7 * 11 * 31 * 151 * 331) := (((((((k2.mul_right k3).mul_right k3).mul_right k7).mul_right k11).mul_right k31).mul_right k151).mul_right k331)
  have e1 : 2 * 3 * 3 * 7 * 11 * 31 * 151 * 331 = 2147483646 := by decide
  rw [e1] at c
  have c2 : Nat.gcd e 2147483646 = e := Nat.gcd_eq_left he
  exact c2.symm.trans c
theorem m31_chk : chkD 2147483647 16 0 = true := by decide +kernel
theorem lcg_round {x z : Nat} (hx : x < 2147483647) (hz : z < 2147483647) (hx1 : x ≠ 934936168) (hz1 : z ≠ 934936168) : ∃ n, itG 48271 12345 2147483647 n x = z := by
  refine itG_round (N := 2147483646) (f := 31) (K := 1212547479) (by decide) (by decide) (by decide) (by decide +kernel) (by decide) (fun y h0 h1 => cop_by m31_chk (by decide) h0 h1) (by decide +kernel) _ m31_pws m31_fac (by decide +kernel) hx hz ?_ ?_ <;> omega
/-! ### drawn rows -/
def Ok2 (s : DS) : Prop := Ok s ∧ s.seed ≠ 934936168
theorem seed_next {x : Int} (h0 : 0 ≤ x) (h1 : x < 2147483647) (h2 : x ≠ 934936168) : (x * 48271 + 12345) % 2147483647 ≠ 934936168 := by
  intro h
  omega
theorem drawI_ok2 {s : DS} {n : Int} (h : Ok2 s) (hn : 0 < n) : Ok2 (drawI s n).2 := by
  refine ⟨(drawI_ok h.1 hn).2.2, ?_⟩
  unfold drawI
  split
  · exact h.2
  · exact seed_next h.1.2.1 h.1.2.2 h.2
theorem stateOf_ok2 (ns : List Int) : Ok2 (stateOf ns) := by
  have := seedOf_bd ns
  refine ⟨stateOf_ok ns, ?_⟩
  show seedOf ns + 1 ≠ _
  omega
theorem draw_ok2 {s : DS} {n : Int} (h : Ok2 s) (hn : 0 < n) (hz : n.natAbs.log2 < 9000) : m_draw [none, some (.int n)] s = some (.int (drawI s n).1, (drawI s n).2) := if_pos ⟨hn, hz⟩
/-- m numbers from 1 to most -/
def rowI (most : Int) : Nat → DS → List Nat × DS
  | 0, s => ([], s)
  | m + 1, s => let q := rowI most m (drawI s most).2; ((1 + (drawI s most).1).toNat :: q.1, q.2)
theorem rowI_ok {most : Int} (hm : 0 < most) : ∀ (m : Nat) {s : DS}, Ok2 s → Ok2 (rowI most m s).2 ∧ (rowI most m s).1.length = m ∧ ∀ x ∈ (rowI most m s).1, 1 ≤ x ∧ (x : Int) ≤ most
  | 0, s, h => ⟨h, rfl, fun x hx => by cases hx⟩
  | m + 1, s, h => by
    obtain ⟨a, b, c⟩ := rowI_ok hm m (drawI_ok2 h hm)
    obtain ⟨d1, d2, _⟩ := drawI_ok h.1 hm
    refine ⟨a, by show _ + 1 = _; rw [b], fun x hx => ?_⟩
    rcases List.mem_cons.mp hx with e | e
    · rw [e]; omega
    · exact c x e
theorem lcGo_row {i : Nat} {te : EM DS} {ρ : Slots} {most : Int} (hm : 0 < most) (hte : ∀ v : D, ∀ s, Ok2 s → te (ρ.set i (some v)) s = some (.int (1 + (drawI s most).1), (drawI s most).2)) :
    ∀ (ds : List D) (s : DS), Ok2 s → lcGo (gN i) tYe te ρ ds s = some ((rowI most ds.length s).1.map fun n : Nat => .int (n : Int), (rowI most ds.length s).2)
  | [], s, _ => rfl
  | d :: ds, s, h => by
    unfold lcGo
    obtain ⟨d1, d2, _⟩ := drawI_ok h.1 hm
    rw [show gN i d ρ = some (ρ.set i (some d)) from rfl, Option.bind_some, show (tYe : TM DS) (ρ.set i (some d)) s = some (true, s) from rfl, bnd_mk, if_pos rfl, hte d s h, bnd_mk, lcGo_row hm hte ds _ (drawI_ok2 h hm), bnd_mk]
    show some (_ :: _, _) = some (List.map _ (_ :: _), _)
    rw [List.map_cons, Int.toNat_of_nonneg (by omega)]
    rfl
/-! ### the sum of the cells -/
def cellSum (s : DS) : Nat := (s.cells.map Int.toNat).sum
theorem dropZ_sum : ∀ l : List Int, ((dropZ l).map Int.toNat).sum = (l.map Int.toNat).sum
  | [] => rfl
  | c :: r => by
    unfold dropZ
    split
    · rename_i h
      subst h
      rw [dropZ_sum r, List.map_cons, List.sum_cons]
      simp
    · rfl
theorem dropZ_head : ∀ {l : List Int} {c : Int} {r : List Int}, dropZ l = c :: r → c ≠ 0
  | [], _, _, h => by cases h
  | x :: l, c, r, h => by
    unfold dropZ at h
    split at h
    · exact dropZ_head h
    · cases h; assumption
theorem draw_sum {s : DS} {n : Int} (h : Ok s) (hn : 0 < n) : cellSum (drawI s n).2 ≤ cellSum s ∧ (2 ≤ n → dropZ s.cells ≠ [] → cellSum (drawI s n).2 < cellSum s) := by
  have hs := dropZ_sum s.cells
  have hh := @dropZ_head s.cells
  have hm : ∀ x, x ∈ dropZ s.cells → x ∈ s.cells := fun x hx => dropZ_sub _ _ hx
  unfold drawI cellSum
  split
  · rename_i c r e
    rw [e] at hs hm
    rw [← hs]
    have hc := h.1 c (hm c List.mem_cons_self)
    have hc0 := hh e
    simp only [List.map_cons, List.sum_cons]
    have h1 : c / n ≤ c := Int.ediv_le_self n hc
    have h0 : 0 ≤ c / n := Int.ediv_nonneg hc (by omega)
    refine ⟨by omega, fun h2 _ => ?_⟩
    have : c / n < c := Int.ediv_lt_self_of_pos_of_ne_one (by omega) (by omega) |> fun z => z
    omega
  · rename_i e
    refine ⟨by simp, fun _ q => absurd e q⟩
theorem row_sum {most : Int} (hm : 0 < most) : ∀ (m : Nat) {s : DS}, Ok2 s → cellSum (rowI most m s).2 ≤ cellSum s
  | 0, s, h => Nat.le_refl _
  | m + 1, s, h => Nat.le_trans (row_sum hm m (drawI_ok2 h hm)) (draw_sum h.1 hm).1
/-! ### cells used up -/
theorem draw_out {s : DS} (h : dropZ s.cells = []) {n : Int} : drawI s n = ((s.seed * 48271 + 12345) % 2147483647 / 64 % n, ⟨[], (s.seed * 48271 + 12345) % 2147483647⟩) := by
  unfold drawI
  rw [h]
theorem out_seed {x : Nat} {n : Int} : (drawI ⟨[], (x : Int)⟩ n).2 = ⟨[], ((itG 48271 12345 2147483647 1 x : Nat) : Int)⟩ := by
  rw [draw_out rfl]
  show (⟨[], _⟩ : DS) = ⟨[], _⟩
  congr 1
theorem row_out {most : Int} : ∀ (m x : Nat), (rowI most m ⟨[], (x : Int)⟩).2 = ⟨[], ((itG 48271 12345 2147483647 m x : Nat) : Int)⟩
  | 0, x => rfl
  | m + 1, x => by
    show (rowI most m (drawI ⟨[], (x : Int)⟩ most).2).2 = _
    rw [out_seed, row_out m]
    rfl
/-- one turn: how many, then the row -/
def turnI (most many : Int) (s : DS) : List Nat × DS := rowI most (1 + (drawI s many).1).toNat (drawI s many).2
def gcdL (xs : List Nat) : Nat := xs.foldl Nat.gcd 0
def goodAt (most many : Int) (x : Nat) : Bool := gcdL (turnI most many ⟨[], (x : Int)⟩).1 == 1
theorem turn_out {most many : Int} (hn : 0 < many) (x : Nat) : ∃ k : Nat, 2 ≤ k ∧ (k : Int) ≤ many + 1 ∧ (turnI most many ⟨[], (x : Int)⟩).2 = ⟨[], ((itG 48271 12345 2147483647 k x : Nat) : Int)⟩ := by
  have h0 : 0 ≤ (drawI ⟨[], (x : Int)⟩ many).1 := by rw [draw_out rfl]; exact Int.emod_nonneg _ (by omega)
  have h1 : (drawI ⟨[], (x : Int)⟩ many).1 < many := by rw [draw_out rfl]; exact Int.emod_lt_of_pos _ hn
  refine ⟨1 + (1 + (drawI ⟨[], (x : Int)⟩ many).1).toNat, by omega, by omega, ?_⟩
  unfold turnI
  rw [out_seed, row_out, itG_add]
/-- a rule for loops that try turns until one is good -/
theorem turns_end {most many : Int} (hm : 0 < most) (hn2 : 2 ≤ many) (z : Nat) (hz : z < 2147483647) (hz1 : z ≠ 934936168) (hw : ∀ i : Nat, (i : Int) ≤ many → goodAt most many (itG 48271 12345 2147483647 i z) = true)
    (P : DS → Prop) (hP : ∀ s, Ok2 s → (gcdL (turnI most many s).1 = 1 ∨ P (turnI most many s).2) → P s) : ∀ s, Ok2 s → P s := by
  have hn : 0 < many := by omega
  have turn_ok : ∀ s, Ok2 s → Ok2 (turnI most many s).2 := fun s h => (rowI_ok (by omega) _ (drawI_ok2 h hn)).1
  -- from a used-up state
  have outP : ∀ x : Nat, x < 2147483647 → x ≠ 934936168 → P ⟨[], (x : Int)⟩ := by
    intro x hx hx1
    obtain ⟨n0, hn0⟩ := lcg_round hx hz hx1 hz1
    have ok : ∀ p, Ok2 ⟨[], ((itG 48271 12345 2147483647 p x : Nat) : Int)⟩ := fun p => by
      induction p with
      | zero => exact ⟨⟨fun c hc => by simp at hc, by show (0 : Int) ≤ (x : Int); omega, by show (x : Int) < 2147483647; omega⟩, by show (x : Int) ≠ 934936168; omega⟩
      | succ p ih =>
        have := drawI_ok2 (n := 1) ih (by decide)
        rw [out_seed, ← itG_add] at this
        exact this
    have down : ∀ t p, n0 + many.toNat + 1 - p = t → p ≤ n0 + many.toNat → P ⟨[], ((itG 48271 12345 2147483647 p x : Nat) : Int)⟩ := by
      intro t
      induction t using Nat.strongRecOn with
      | _ t ih =>
        intro p ht hp
        refine hP _ (ok p) ?_
        by_cases hg : gcdL (turnI most many ⟨[], ((itG 48271 12345 2147483647 p x : Nat) : Int)⟩).1 = 1
        · exact .inl hg
        · right
          have hlt : p < n0 := by
            rcases Nat.lt_or_ge p n0 with q | q
            · exact q
            · exfalso
              refine hg (beq_iff_eq.mp ?_)
              have := hw (p - n0) (by omega)
              rw [← hn0, ← itG_add, show n0 + (p - n0) = p by omega] at this
              exact this
          obtain ⟨k, k1, k2, k3⟩ := turn_out (most := most) hn (itG 48271 12345 2147483647 p x)
          rw [k3, ← itG_add]
          exact ih (n0 + many.toNat + 1 - (p + k)) (by omega) (p + k) rfl (by omega)
    exact down _ 0 rfl (by omega)
  have main : ∀ t s, cellSum s = t → Ok2 s → P s := by
    intro t
    induction t using Nat.strongRecOn with
    | _ t ih =>
      intro s ht h
      by_cases hd : dropZ s.cells = []
      · -- like the state without cells, from its first turn on
        refine hP s h (.inr ?_)
        have e : (turnI most many s).2 = (turnI most many ⟨[], s.seed⟩).2 := by
          unfold turnI
          rw [draw_out hd, draw_out (s := ⟨[], s.seed⟩) rfl]
        obtain ⟨x, hx⟩ := Int.eq_ofNat_of_zero_le h.1.2.1
        rw [e, hx]
        obtain ⟨k, _, _, k3⟩ := turn_out (most := most) hn x
        have hx2 := h.1.2.2
        have hx3 := h.2
        rw [hx] at hx2 hx3
        have okx : Ok2 ⟨[], (x : Int)⟩ := ⟨⟨fun c hc => by simp at hc, by show (0 : Int) ≤ (x : Int); omega, hx2⟩, hx3⟩
        have ok2 := turn_ok _ okx
        rw [k3] at ok2 ⊢
        refine outP _ ?_ ?_
        · have := ok2.1.2.2
          show _ < _
          have : ((itG 48271 12345 2147483647 k x : Nat) : Int) < 2147483647 := this
          omega
        · have : ((itG 48271 12345 2147483647 k x : Nat) : Int) ≠ 934936168 := ok2.2
          omega
      · by_cases hg : gcdL (turnI most many s).1 = 1
        · exact hP s h (.inl hg)
        · refine hP s h (.inr ?_)
          refine ih (cellSum (turnI most many s).2) ?_ _ rfl (turn_ok s h)
          subst ht
          exact Nat.lt_of_le_of_lt (row_sum (by omega) _ (drawI_ok2 h hn)) ((draw_sum h.1 hn).2 hn2 hd)
  exact fun s h => main _ s rfl h
end G

/-! Mirrors evaluated by simp: one rewriting rule for each construct, applied to slots and state alone. -/
namespace G
open PySem L2
variable {S : Type}
theorem x_bnd {α β S : Type} (x : α) (s : S) (k : α → S → Option β) : bnd (some (x, s)) k = k x s := id rfl
theorem x_bndN {α β S : Type} (k : α → S → Option β) : bnd (none : Option (α × S)) k = none := id rfl
theorem x_var (i : Nat) (ρ : Slots) (s : S) : eVar i ρ s = match ρ[i]? with | some (some d) => some (d, s) | _ => none := id rfl
theorem x_c (d : D) (ρ : Slots) (s : S) : eC d ρ s = some (d, s) := id rfl
theorem x_op2 (g : D → D → Option D) (a b : EM S) (ρ : Slots) (s : S) : eOp2 g a b ρ s = bnd (a ρ s) fun x s1 => bnd (b ρ s1) fun y s2 => (g x y).bind fun z => some (z, s2) := id rfl
theorem x_op1 (g : D → Option D) (a : EM S) (ρ : Slots) (s : S) : eOp1 g a ρ s = bnd (a ρ s) fun x s1 => (g x).bind fun z => some (z, s1) := id rfl
theorem x_tr (m : EM S) (ρ : Slots) (s : S) : tTr m ρ s = bnd (m ρ s) fun d s1 => (tru d).bind fun b => some (b, s1) := id rfl
theorem x_not (m : EM S) (ρ : Slots) (s : S) : eNot m ρ s = bnd (m ρ s) fun d s1 => (tru d).bind fun b => some (.bool (!b), s1) := id rfl
theorem x_and (a b : EM S) (ρ : Slots) (s : S) : eAnd a b ρ s = bnd (a ρ s) fun x s1 => (tru x).bind fun k => if k = true then b ρ s1 else some (x, s1) := id rfl
theorem x_or (a b : EM S) (ρ : Slots) (s : S) : eOr a b ρ s = bnd (a ρ s) fun x s1 => (tru x).bind fun k => if k = true then some (x, s1) else b ρ s1 := id rfl
theorem x_tan (a b : TM S) (ρ : Slots) (s : S) : tAn a b ρ s = bnd (a ρ s) fun k s1 => if k = true then b ρ s1 else some (false, s1) := id rfl
theorem x_too (a b : TM S) (ρ : Slots) (s : S) : tOo a b ρ s = bnd (a ρ s) fun k s1 => if k = true then some (true, s1) else b ρ s1 := id rfl
theorem x_tno (a : TM S) (ρ : Slots) (s : S) : tNo a ρ s = bnd (a ρ s) fun k s1 => some (!k, s1) := id rfl
def kOf (d : D) (s1 : S) : Option (Bool × S) := match d with
  | .bool b => some (b, s1)
  | _ => none
theorem x_tof (m : EM S) (ρ : Slots) (s : S) : tOf m ρ s = bnd (m ρ s) kOf := id rfl
theorem x_kof (b : Bool) (s : S) : kOf (.bool b) s = some (b, s) := id rfl
def kSo (d : D) (s1 : S) : Option (Option Int × S) := match d with
  | .int i => some (some i, s1)
  | _ => none
theorem x_kso (i : Int) (s : S) : kSo (.int i) s = some (some i, s) := id rfl
theorem x_if (t : TM S) (a b : EM S) (ρ : Slots) (s : S) : eIf t a b ρ s = bnd (t ρ s) fun k s1 => if k = true then a ρ s1 else b ρ s1 := id rfl
theorem x_nil (ρ : Slots) (s : S) : lNil ρ s = some ([], s) := id rfl
theorem x_cons (a : EM S) (r : LM S) (ρ : Slots) (s : S) : lCons a r ρ s = bnd (a ρ s) fun x s1 => bnd (r ρ s1) fun xs s2 => some (x :: xs, s2) := id rfl
theorem x_lst (m : LM S) (ρ : Slots) (s : S) : eLst m ρ s = bnd (m ρ s) fun ds s1 => if ds.length ≤ sizeLine then some (.list ds, s1) else none := by
  unfold eLst
  exact id rfl
theorem x_tup (m : LM S) (ρ : Slots) (s : S) : eTup m ρ s = bnd (m ρ s) fun ds s1 => if ds.length ≤ sizeLine then some (.tuple ds, s1) else none := by
  unfold eTup
  exact id rfl
theorem x_call (g : List D → Option D) (m : LM S) (ρ : Slots) (s : S) : eCall g m ρ s = bnd (m ρ s) fun ds s1 => (g ds).bind fun d => some (d, s1) := id rfl
theorem x_callP (M : Mir Unit) (m : LM S) (ρ : Slots) (s : S) : eCallP M m ρ s = bnd (m ρ s) fun ds s1 => bnd (M (ds.map some) ()) fun d _ => some (d, s1) := id rfl
theorem x_callS (M : Mir DS) (m : LM DS) (ρ : Slots) (s : DS) : eCallS M m ρ s = bnd (m ρ s) fun ds s1 => M (none :: ds.map some) s1 := id rfl
theorem x_sc (m : EM S) (ρ : Slots) (s : S) : eSc m ρ s = bnd (m ρ s) fun d s1 => if isSc d = true then some (d, s1) else none := id rfl
theorem x_sl (a : EM S) (lo hi : OM S) (ρ : Slots) (s : S) : eSl a lo hi ρ s = bnd (a ρ s) fun x s1 => bnd (lo ρ s1) fun l s2 => bnd (hi ρ s2) fun u s3 => (dSl x l u).bind fun z => some (z, s3) := id rfl
theorem x_no (ρ : Slots) (s : S) : oNo ρ s = some (none, s) := id rfl
def kSeq (b : SM S) (r : Res) (s1 : S) : Option (Res × S) := match r with
  | .nx ρ' => b ρ' s1
  | r => some (r, s1)
theorem x_seq (a b : SM S) (ρ : Slots) (s : S) : sSeq a b ρ s = bnd (a ρ s) (kSeq b) := by
  unfold sSeq
  congr
theorem x_kn (b : SM S) (ρ : Slots) (s : S) : kSeq b (.nx ρ) s = b ρ s := id rfl
theorem x_kr (b : SM S) (d : D) (s : S) : kSeq b (.rt d) s = some (.rt d, s) := id rfl
theorem x_kb (b : SM S) (ρ : Slots) (s : S) : kSeq b (.bk ρ) s = some (.bk ρ, s) := id rfl
theorem x_kc (b : SM S) (ρ : Slots) (s : S) : kSeq b (.ct ρ) s = some (.ct ρ, s) := id rfl
theorem x_nx (ρ : Slots) (s : S) : sNx ρ s = some (.nx ρ, s) := id rfl
theorem x_bk (ρ : Slots) (s : S) : sBk ρ s = some (.bk ρ, s) := id rfl
theorem x_ct (ρ : Slots) (s : S) : sCt ρ s = some (.ct ρ, s) := id rfl
theorem x_set (i : Nat) (m : EM S) (ρ : Slots) (s : S) : sSet i m ρ s = bnd (m ρ s) fun d s1 => some (.nx (ρ.set i (some d)), s1) := id rfl
theorem x_ret (m : EM S) (ρ : Slots) (s : S) : sRet m ρ s = bnd (m ρ s) fun d s1 => some (.rt d, s1) := id rfl
theorem x_sif (t : TM S) (a b : SM S) (ρ : Slots) (s : S) : sIf t a b ρ s = bnd (t ρ s) fun k s1 => if k = true then a ρ s1 else b ρ s1 := id rfl
theorem x_drop (m : EM S) (ρ : Slots) (s : S) : sDrop m ρ s = bnd (m ρ s) fun _ s1 => some (.nx ρ, s1) := id rfl
theorem x_tg (m : EM S) (g : GM) (ρ : Slots) (s : S) : sTg m g ρ s = bnd (m ρ s) fun d s1 => (g d ρ).bind fun ρ' => some (.nx ρ', s1) := id rfl
theorem x_gn (i : Nat) (d : D) (ρ : Slots) : gN i d ρ = some (ρ.set i (some d)) := id rfl
theorem x_gtup (n : Nat) (r : List D → Slots → Option Slots) (ds : List D) (ρ : Slots) : gT n r (.tuple ds) ρ = if ds.length = n then r ds ρ else none := id rfl
theorem x_glist (n : Nat) (r : List D → Slots → Option Slots) (ds : List D) (ρ : Slots) : gT n r (.list ds) ρ = if ds.length = n then r ds ρ else none := id rfl
theorem x_gsn (ρ : Slots) : gsN [] ρ = some ρ := id rfl
theorem x_gsc (g : GM) (r : List D → Slots → Option Slots) (d : D) (ds : List D) (ρ : Slots) : gsC g r (d :: ds) ρ = (g d ρ).bind fun ρ1 => r ds ρ1 := id rfl
theorem x_so (m : EM S) (ρ : Slots) (s : S) : oSo m ρ s = bnd (m ρ s) kSo := id rfl
theorem x_for (src : LM S) (tg : GM) (body : SM S) (ρ : Slots) (s : S) : sFor src tg body ρ s = bnd (src ρ s) fun ds s1 => forGo tg body ds ρ s1 := id rfl
def kSq (d : D) (s1 : S) : Option (List D × S) := match d with
  | .list ds => some (ds, s1)
  | .tuple ds => some (ds, s1)
  | _ => none
theorem x_lseq (m : EM S) (ρ : Slots) (s : S) : lSeq m ρ s = bnd (m ρ s) kSq := by
  unfold lSeq
  congr
theorem x_ksl (xs : List D) (s : S) : kSq (.list xs) s = some (xs, s) := id rfl
theorem x_kst (xs : List D) (s : S) : kSq (.tuple xs) s = some (xs, s) := id rfl
def kApp (i : Nat) (ρ : Slots) (l d : D) (s2 : S) : Option (Res × S) := match l with
  | .list ds => if ds.length < sizeLine then some (.nx (ρ.set i (some (.list (ds ++ [d])))), s2) else none
  | _ => none
theorem szK {n : Nat} (h : n ≤ 1000000) : n ≤ sizeLine := le_sz (by omega)
theorem szL {n : Nat} (h : n < 1000000) : n < sizeLine := Nat.lt_of_lt_of_le (Nat.lt_succ_self n) (szK h)
theorem x_app (i : Nat) (me : EM S) (ρ : Slots) (s : S) : sApp i me ρ s = bnd (eVar i ρ s) fun l s1 => bnd (me ρ s1) fun d s2 => kApp i ρ l d s2 := by
  unfold sApp kApp
  exact id rfl
theorem x_kapp (i : Nat) (ρ : Slots) (ds : List D) (d : D) (s : S) : kApp i ρ (.list ds) d s = if ds.length < sizeLine then some (.nx (ρ.set i (some (.list (ds ++ [d])))), s) else none := id rfl
def kIx (i : Nat) (ρ : Slots) (d l k : D) (s3 : S) : Option (Res × S) := match l, k with
  | .list ds, .int k => (ixN ds.length k).bind fun j => some (.nx (ρ.set i (some (.list (ds.set j d)))), s3)
  | _, _ => none
theorem x_six (i : Nat) (mi me : EM S) (ρ : Slots) (s : S) : sIx i mi me ρ s = bnd (me ρ s) fun d s1 => bnd (eVar i ρ s1) fun l s2 => bnd (mi ρ s2) fun k s3 => kIx i ρ d l k s3 := by
  unfold sIx kIx
  exact id rfl
theorem x_kix (i : Nat) (ρ : Slots) (d : D) (ds : List D) (k : Int) (s : S) : kIx i ρ d (.list ds) (.int k) s = (ixN ds.length k).bind fun j => some (.nx (ρ.set i (some (.list (ds.set j d)))), s) := id rfl
def kAug (i : Nat) (g : Int → Int → Int) (ρ : Slots) (x y : D) (s2 : S) : Option (Res × S) := match x, y with
  | .int a, .int b => some (.nx (ρ.set i (some (.int (g a b)))), s2)
  | _, _ => none
theorem x_aug (i : Nat) (g : Int → Int → Int) (m : EM S) (ρ : Slots) (s : S) : sAugI i g m ρ s = bnd (eVar i ρ s) fun x s1 => bnd (m ρ s1) fun y s2 => kAug i g ρ x y s2 := by
  unfold sAugI kAug
  exact id rfl
theorem x_kaug (i : Nat) (g : Int → Int → Int) (ρ : Slots) (a b : Int) (s : S) : kAug i g ρ (.int a) (.int b) s = some (.nx (ρ.set i (some (.int (g a b)))), s) := id rfl
def kPar (i j : Nat) (ρ : Slots) (ds : List D) (s1 : S) : Option (Res × S) := match ds with
  | [x, y] => some (.nx ((ρ.set i (some x)).set j (some y)), s1)
  | _ => none
theorem x_par (i j : Nat) (m : LM S) (ρ : Slots) (s : S) : sPar i j m ρ s = bnd (m ρ s) (kPar i j ρ) := by
  unfold sPar kPar
  exact id rfl
theorem x_kpar (i j : Nat) (ρ : Slots) (x y : D) (s : S) : kPar i j ρ [x, y] s = some (.nx ((ρ.set i (some x)).set j (some y)), s) := id rfl
def kPar3 (i j l : Nat) (ρ : Slots) (ds : List D) (s1 : S) : Option (Res × S) := match ds with
  | [x, y, z] => some (.nx (((ρ.set i (some x)).set j (some y)).set l (some z)), s1)
  | _ => none
theorem x_par3 (i j l : Nat) (m : LM S) (ρ : Slots) (s : S) : sPar3 i j l m ρ s = bnd (m ρ s) (kPar3 i j l ρ) := by
  unfold sPar3 kPar3
  exact id rfl
theorem x_kpar3 (i j l : Nat) (ρ : Slots) (x y z : D) (s : S) : kPar3 i j l ρ [x, y, z] s = some (.nx (((ρ.set i (some x)).set j (some y)).set l (some z)), s) := id rfl
theorem x_lc (src : LM S) (vs : List Nat) (tg : GM) (tt : TM S) (te : EM S) (ρ : Slots) (s : S) : eLc src vs tg tt te ρ s = bnd (src ρ s) fun ds s1 => bnd (lcGo tg tt te (wipeS ρ vs) ds s1) fun ys s2 => if ys.length ≤ sizeLine then some (.list ys, s2) else none := by
  unfold eLc
  exact id rfl
theorem x_any (k : Bool) (src : LM S) (vs : List Nat) (tg : GM) (tt : TM S) (te : EM S) (ρ : Slots) (s : S) : eAny k src vs tg tt te ρ s = bnd (src ρ s) fun ds s1 => bnd (anyGo k tg tt te (wipeS ρ vs) ds s1) fun b s2 => some (.bool b, s2) := id rfl
theorem x_yes (ρ : Slots) (s : S) : tYe ρ s = some (true, s) := id rfl
def kEnum (ds : List D) (s1 : S) : Option (List D × S) := match ds with
  | [.list xs] => some (enumD xs, s1)
  | [.tuple xs] => some (enumD xs, s1)
  | _ => none
theorem x_enum (m : LM S) (ρ : Slots) (s : S) : lEnum m ρ s = bnd (m ρ s) kEnum := by
  unfold lEnum kEnum
  exact id rfl
theorem x_kel (xs : List D) (s : S) : kEnum [.list xs] s = some (enumD xs, s) := id rfl
theorem x_ket (xs : List D) (s : S) : kEnum [.tuple xs] s = some (enumD xs, s) := id rfl
def kR1 (ds : List D) (s1 : S) : Option (List D × S) := match ds with
  | [.int i] => if bd62 i = true then some (rangeD 0 i.toNat, s1) else none
  | _ => none
theorem x_range1 (m : LM S) (ρ : Slots) (s : S) : lRange1 m ρ s = bnd (m ρ s) kR1 := by
  unfold lRange1 kR1
  exact id rfl
theorem x_kr1 (i : Int) (s : S) : kR1 [.int i] s = if bd62 i = true then some (rangeD 0 i.toNat, s) else none := id rfl
def kR2 (ds : List D) (s1 : S) : Option (List D × S) := match ds with
  | [.int i, .int j] => if (bd62 i && bd62 j) = true then some (rangeD i (j - i).toNat, s1) else none
  | _ => none
theorem x_range2 (m : LM S) (ρ : Slots) (s : S) : lRange2 m ρ s = bnd (m ρ s) kR2 := by
  unfold lRange2 kR2
  simp only [Bool.and_eq_true]
  all_goals rfl
theorem x_kr2 (i j : Int) (s : S) : kR2 [.int i, .int j] s = if (bd62 i && bd62 j) = true then some (rangeD i (j - i).toNat, s) else none := id rfl
theorem bd1 : bd62 1 = true := by decide
theorem bd0 : bd62 0 = true := by decide
theorem bd_nat {n : Nat} (h : n ≤ 1000000000000000000) : bd62 (n : Int) = true := bd62_ok (by omega) (by omega)
theorem bd_nat1 {n : Nat} (h : n ≤ 1000000000000000) : bd62 ((n : Int) + 1) = true := bd62_ok (by omega) (by omega)
theorem toNat1 (n : Nat) : ((n : Int) + 1 - 1).toNat = n := by omega
theorem x_fn (n : Nat) (body : SM S) (as : Slots) (s : S) : fnM n body as s = bnd (body (as ++ List.replicate (n - as.length) none) s) fun r s1 => match r with
  | .rt d => some (d, s1)
  | .nx _ => some (.none, s1)
  | _ => none := id rfl
theorem x_add (i j : Int) : dAdd (.int i) (.int j) = some (.int (i + j)) := id rfl
theorem x_sub (i j : Int) : dSub (.int i) (.int j) = some (.int (i - j)) := id rfl
theorem x_lt (i j : Int) : dLt (.int i) (.int j) = some (.bool (decide (i < j))) := id rfl
theorem x_le (i j : Int) : dLe (.int i) (.int j) = some (.bool (decide (i ≤ j))) := id rfl
theorem x_gt (i j : Int) : dGt (.int i) (.int j) = some (.bool (decide (j < i))) := id rfl
theorem x_ge (i j : Int) : dGe (.int i) (.int j) = some (.bool (decide (j ≤ i))) := id rfl
theorem x_eq (i j : Int) : dEq (.int i) (.int j) = some (.bool (i == j)) := dEq_int
theorem x_ne (i j : Int) : dNe (.int i) (.int j) = some (.bool (!(i == j))) := dNe_int
theorem x_ixl (xs : List D) (i : Int) : dIx (.list xs) (.int i) = atI xs i := id rfl
theorem x_ixt (xs : List D) (i : Int) : dIx (.tuple xs) (.int i) = atI xs i := id rfl
theorem x_len (xs : List D) : gLen [.list xs] = some (.int (xs.length : Nat)) := id rfl
theorem x_lent (xs : List D) : gLen [.tuple xs] = some (.int (xs.length : Nat)) := id rfl
theorem x_tupl (xs : List D) : gTuple [.list xs] = some (.tuple xs) := id rfl
theorem x_tupt (xs : List D) : gTuple [.tuple xs] = some (.tuple xs) := id rfl
theorem x_lstl (xs : List D) : gList [.list xs] = some (.list xs) := id rfl
theorem x_lstt (xs : List D) : gList [.tuple xs] = some (.list xs) := id rfl
theorem x_int (i : Int) : gInt [.int i] = some (.int i) := id rfl
theorem x_trb (b : Bool) : tru (.bool b) = some b := id rfl
theorem x_tri (i : Int) : tru (.int i) = some (i != 0) := id rfl
theorem x_trt (xs : List D) : tru (.tuple xs) = some (!xs.isEmpty) := id rfl
theorem x_trl (xs : List D) : tru (.list xs) = some (!xs.isEmpty) := id rfl
theorem x_wipe (ρ : Slots) (v : Nat) (vs : List Nat) : wipeS ρ (v :: vs) = (wipeS ρ vs).set v none := id rfl
theorem x_wipe0 (ρ : Slots) : wipeS ρ [] = ρ := id rfl
def kCh (g' : D → D → Option D) (c : EM S) (ρ : Slots) (y z : D) (s2 : S) : Option (D × S) := match z with
  | .bool true => bnd (c ρ s2) fun w s3 => (g' y w).bind fun z' => some (z', s3)
  | .bool false => some (.bool false, s2)
  | _ => none
theorem x_chain (g g' : D → D → Option D) (a b c : EM S) (ρ : Slots) (s : S) : eChain g g' a b c ρ s = bnd (a ρ s) fun x s1 => bnd (b ρ s1) fun y s2 => (g x y).bind fun z => kCh g' c ρ y z s2 := by
  unfold eChain kCh
  exact id rfl
theorem x_kcht (g' : D → D → Option D) (c : EM S) (ρ : Slots) (y : D) (s : S) : kCh g' c ρ y (.bool true) s = bnd (c ρ s) fun w s3 => (g' y w).bind fun z' => some (z', s3) := id rfl
theorem x_kchf (g' : D → D → Option D) (c : EM S) (ρ : Slots) (y : D) (s : S) : kCh g' c ρ y (.bool false) s = some (.bool false, s) := id rfl
theorem x_gcd (i j : Nat) : gGcd [.int (i : Int), .int (j : Int)] = some (.int ((Nat.gcd i j : Nat) : Int)) := id rfl
def kScL (d : D) (s1 : S) : Option (D × S) := match d with
  | .list ds => if ds.all isSc = true then some (.list ds, s1) else none
  | _ => none
theorem x_escl (m : EM S) (ρ : Slots) (s : S) : eScL m ρ s = bnd (m ρ s) kScL := by
  unfold eScL kScL
  exact id rfl
theorem x_kscl (ds : List D) (s : S) : kScL (.list ds) s = if ds.all isSc = true then some (.list ds, s) else none := id rfl
theorem x_self (i : Nat) (ρ : Slots) (s : S) : sSelf i ρ s = match ρ[i]? with | some (some _) => some (.nx ρ, s) | _ => none := id rfl
theorem x_iss (i : Int) : isSc (.int i) = true := id rfl
theorem x_maxg (ds : List D) : gMaxG ds = orD (gMax ds) (bestD PySem.W.maxD ds) := id rfl
theorem x_ming (ds : List D) : gMinG ds = orD (gMin ds) (bestD PySem.W.minD ds) := id rfl
theorem x_sortg (ds : List D) : gSortedG ds = orD (gSorted ds) (gSortedT ds) := id rfl
theorem x_ord (d : D) (b : Option D) : orD (some d) b = some d := id rfl
theorem x_ordn (b : Option D) : orD none b = b := id rfl
theorem x_revl (xs : List D) : dRevA (.list xs) = some (.list xs.reverse) := id rfl
theorem x_revt (xs : List D) : dRevA (.tuple xs) = some (.tuple xs.reverse) := id rfl
end G

/-! Mirrors by what holds behind them: Wp m Q says that m ends, with Q. Loops by invariants, straight code by `ev`. -/
namespace G
open PySem L2
def Wp {α S : Type} (m : Option (α × S)) (Q : α → S → Prop) : Prop := ∃ x s, m = some (x, s) ∧ Q x s
theorem wp_some {α S : Type} (x : α) (s : S) (Q : α → S → Prop) : Wp (some (x, s)) Q = Q x s := by
  refine propext ⟨?_, fun h => ⟨x, s, rfl, h⟩⟩
  rintro ⟨y, t, e, h⟩
  cases e
  exact h
def wK {α β S T : Type} (k : α → S → Option (β × T)) (Q : β → T → Prop) (x : α) (s : S) : Prop := Wp (k x s) Q
theorem wp_bnd {α β S T : Type} (m : Option (α × S)) (k : α → S → Option (β × T)) (Q : β → T → Prop) : Wp (bnd m k) Q = Wp m (wK k Q) := by
  refine propext ⟨?_, ?_⟩
  · rintro ⟨y, t, e, h⟩
    obtain ⟨x, s, e1, e2⟩ := bnd_some e
    exact ⟨x, s, e1, y, t, e2, h⟩
  · rintro ⟨x, s, e1, y, t, e2, h⟩
    exact ⟨y, t, by rw [e1, bnd_mk]; exact e2, h⟩
theorem wp_k {α β S T : Type} (k : α → S → Option (β × T)) (Q : β → T → Prop) (x : α) (s : S) : wK k Q x s = Wp (k x s) Q := id rfl
theorem Wp.mono {α S : Type} {m : Option (α × S)} {Q Q' : α → S → Prop} (h : Wp m Q) (q : ∀ x s, Q x s → Q' x s) : Wp m Q' := by
  obtain ⟨x, s, e, h⟩ := h
  exact ⟨x, s, e, q x s h⟩
theorem wp_eq {α S : Type} {m : Option (α × S)} {x : α} {s : S} (h : Wp m fun y t => y = x ∧ t = s) : m = some (x, s) := by
  obtain ⟨y, t, e, rfl, rfl⟩ := h
  exact e
theorem wp_eqU {α : Type} {m : Option (α × Unit)} {x : α} (h : Wp m fun y _ => y = x) : m = some (x, ()) := by
  obtain ⟨y, t, e, rfl⟩ := h
  exact e
theorem wp_of {α S : Type} {m : Option (α × S)} {x : α} {s : S} {Q : α → S → Prop} (e : m = some (x, s)) (h : Q x s) : Wp m Q := ⟨x, s, e, h⟩
variable {S : Type}
/-! the rules of evaluation, each with a name for what comes behind -/
def kVar (o : Option (Option D)) (s : S) : Option (D × S) := match o with
  | some (some d) => some (d, s)
  | _ => none
theorem v_var (i : Nat) (ρ : Slots) (s : S) : eVar i ρ s = kVar ρ[i]? s := id rfl
theorem v_kvar (d : D) (s : S) : kVar (some (some d)) s = some (d, s) := id rfl
/-- a datum and the state -/
def oS {α : Type} (o : Option α) (s : S) : Option (α × S) := match o with
  | some d => some (d, s)
  | none => none
theorem oS_eq {α : Type} (o : Option α) (s : S) : oS o s = o.bind fun d => some (d, s) := by cases o <;> rfl
theorem v_oS {α : Type} (d : α) (s : S) : oS (some d) s = some (d, s) := id rfl
def k2b (g : D → D → Option D) (x y : D) (s : S) : Option (D × S) := oS (g x y) s
def k2a (g : D → D → Option D) (b : EM S) (ρ : Slots) (x : D) (s : S) : Option (D × S) := bnd (b ρ s) (k2b g x)
theorem v_op2 (g : D → D → Option D) (a b : EM S) (ρ : Slots) (s : S) : eOp2 g a b ρ s = bnd (a ρ s) (k2a g b ρ) := by
  unfold eOp2 k2a k2b; simp only [oS_eq]
theorem v_k2a (g : D → D → Option D) (b : EM S) (ρ : Slots) (x : D) (s : S) : k2a g b ρ x s = bnd (b ρ s) (k2b g x) := id rfl
theorem v_k2b (g : D → D → Option D) (x y : D) (s : S) : k2b g x y s = oS (g x y) s := id rfl
def k1a (g : D → Option D) (x : D) (s : S) : Option (D × S) := oS (g x) s
theorem v_op1 (g : D → Option D) (a : EM S) (ρ : Slots) (s : S) : eOp1 g a ρ s = bnd (a ρ s) (k1a g) := by
  unfold eOp1 k1a; simp only [oS_eq]
theorem v_k1a (g : D → Option D) (x : D) (s : S) : k1a g x s = oS (g x) s := id rfl
def kTr (x : D) (s : S) : Option (Bool × S) := oS (tru x) s
theorem v_tr (m : EM S) (ρ : Slots) (s : S) : tTr m ρ s = bnd (m ρ s) kTr := by
  unfold tTr; exact (congrArg (bnd (m ρ s)) (funext fun x => funext fun s => (oS_eq _ _).symm))
theorem v_ktr (x : D) (s : S) : kTr x s = oS (tru x) s := id rfl
def kNot (x : D) (s : S) : Option (D × S) := oS ((tru x).map fun b => .bool (!b)) s
theorem v_not (m : EM S) (ρ : Slots) (s : S) : eNot m ρ s = bnd (m ρ s) kNot := by
  unfold eNot kNot
  congr 1
  funext x s
  cases tru x <;> rfl
theorem v_knot (x : D) (s : S) : kNot x s = oS ((tru x).map fun b => .bool (!b)) s := id rfl
def anK (k : Bool) (m : Option (Bool × S)) (s : S) : Option (Bool × S) := if k = true then m else some (false, s)
def orK (k : Bool) (m : Option (Bool × S)) (s : S) : Option (Bool × S) := if k = true then some (true, s) else m
def kTan (b : TM S) (ρ : Slots) (k : Bool) (s : S) : Option (Bool × S) := anK k (b ρ s) s
def kToo (b : TM S) (ρ : Slots) (k : Bool) (s : S) : Option (Bool × S) := orK k (b ρ s) s
theorem v_tan (a b : TM S) (ρ : Slots) (s : S) : tAn a b ρ s = bnd (a ρ s) (kTan b ρ) := id rfl
theorem v_too (a b : TM S) (ρ : Slots) (s : S) : tOo a b ρ s = bnd (a ρ s) (kToo b ρ) := id rfl
theorem v_ktan1 (b : TM S) (ρ : Slots) (s : S) : kTan b ρ true s = b ρ s := id rfl
theorem v_ktan0 (b : TM S) (ρ : Slots) (s : S) : kTan b ρ false s = some (false, s) := id rfl
theorem v_ktan (b : TM S) (ρ : Slots) (k : Bool) (s : S) : kTan b ρ k s = anK k (b ρ s) s := id rfl
theorem v_ktoo1 (b : TM S) (ρ : Slots) (s : S) : kToo b ρ true s = some (true, s) := id rfl
theorem v_ktoo0 (b : TM S) (ρ : Slots) (s : S) : kToo b ρ false s = b ρ s := id rfl
theorem v_ktoo (b : TM S) (ρ : Slots) (k : Bool) (s : S) : kToo b ρ k s = orK k (b ρ s) s := id rfl
theorem v_an1 (m : Option (Bool × S)) (s : S) : anK true m s = m := id rfl
theorem v_an0 (m : Option (Bool × S)) (s : S) : anK false m s = some (false, s) := id rfl
theorem v_ank (k c : Bool) (s : S) : anK k (some (c, s)) s = some (k && c, s) := by cases k <;> rfl
theorem v_or1 (m : Option (Bool × S)) (s : S) : orK true m s = some (true, s) := id rfl
theorem v_or0 (m : Option (Bool × S)) (s : S) : orK false m s = m := id rfl
theorem v_ork (k c : Bool) (s : S) : orK k (some (c, s)) s = some (k || c, s) := by cases k <;> rfl
def anV (k : Bool) (m : Option (D × S)) (x : D) (s : S) : Option (D × S) := if k = true then m else some (x, s)
def orV (k : Bool) (m : Option (D × S)) (x : D) (s : S) : Option (D × S) := if k = true then some (x, s) else m
def kTru (o : Option Bool) (b : EM S) (ρ : Slots) (x : D) (s : S) : Option (D × S) := match o with
  | some k => anV k (b ρ s) x s
  | none => none
def kTro (o : Option Bool) (b : EM S) (ρ : Slots) (x : D) (s : S) : Option (D × S) := match o with
  | some k => orV k (b ρ s) x s
  | none => none
def kAnd (b : EM S) (ρ : Slots) (x : D) (s : S) : Option (D × S) := kTru (tru x) b ρ x s
def kOr (b : EM S) (ρ : Slots) (x : D) (s : S) : Option (D × S) := kTro (tru x) b ρ x s
theorem v_and (a b : EM S) (ρ : Slots) (s : S) : eAnd a b ρ s = bnd (a ρ s) (kAnd b ρ) := by
  unfold eAnd kAnd
  congr 1
  funext x s
  cases tru x <;> rfl
theorem v_or (a b : EM S) (ρ : Slots) (s : S) : eOr a b ρ s = bnd (a ρ s) (kOr b ρ) := by
  unfold eOr kOr
  congr 1
  funext x s
  cases tru x <;> rfl
theorem v_kand (b : EM S) (ρ : Slots) (x : D) (s : S) : kAnd b ρ x s = kTru (tru x) b ρ x s := id rfl
theorem v_kor (b : EM S) (ρ : Slots) (x : D) (s : S) : kOr b ρ x s = kTro (tru x) b ρ x s := id rfl
theorem v_ktru1 (b : EM S) (ρ : Slots) (x : D) (s : S) : kTru (some true) b ρ x s = b ρ s := id rfl
theorem v_ktru0 (b : EM S) (ρ : Slots) (x : D) (s : S) : kTru (some false) b ρ x s = some (x, s) := id rfl
theorem v_ktru (k : Bool) (b : EM S) (ρ : Slots) (x : D) (s : S) : kTru (some k) b ρ x s = anV k (b ρ s) x s := id rfl
theorem v_ktro1 (b : EM S) (ρ : Slots) (x : D) (s : S) : kTro (some true) b ρ x s = some (x, s) := id rfl
theorem v_ktro0 (b : EM S) (ρ : Slots) (x : D) (s : S) : kTro (some false) b ρ x s = b ρ s := id rfl
theorem v_ktro (k : Bool) (b : EM S) (ρ : Slots) (x : D) (s : S) : kTro (some k) b ρ x s = orV k (b ρ s) x s := id rfl
theorem v_av1 (m : Option (D × S)) (x : D) (s : S) : anV true m x s = m := id rfl
theorem v_av0 (m : Option (D × S)) (x : D) (s : S) : anV false m x s = some (x, s) := id rfl
theorem v_avk (k c : Bool) (s : S) : anV k (some (.bool c, s)) (.bool k) s = some (.bool (k && c), s) := by cases k <;> rfl
theorem v_ov1 (m : Option (D × S)) (x : D) (s : S) : orV true m x s = some (x, s) := id rfl
theorem v_ov0 (m : Option (D × S)) (x : D) (s : S) : orV false m x s = m := id rfl
theorem v_ovk (k c : Bool) (s : S) : orV k (some (.bool c, s)) (.bool k) s = some (.bool (k || c), s) := by cases k <;> rfl
def kTno (k : Bool) (s : S) : Option (Bool × S) := some (!k, s)
theorem v_tno (a : TM S) (ρ : Slots) (s : S) : tNo a ρ s = bnd (a ρ s) kTno := id rfl
theorem v_ktno (k : Bool) (s : S) : kTno k s = some (!k, s) := id rfl
/-- a branch -/
def ifK {α : Type} (a b : Slots → S → Option (α × S)) (ρ : Slots) (k : Bool) (s : S) : Option (α × S) := if k = true then a ρ s else b ρ s
theorem v_if (t : TM S) (a b : EM S) (ρ : Slots) (s : S) : eIf t a b ρ s = bnd (t ρ s) (ifK a b ρ) := id rfl
theorem v_sif (t : TM S) (a b : SM S) (ρ : Slots) (s : S) : sIf t a b ρ s = bnd (t ρ s) (ifK a b ρ) := id rfl
theorem v_if1 {α : Type} (a b : Slots → S → Option (α × S)) (ρ : Slots) (s : S) : ifK a b ρ true s = a ρ s := id rfl
theorem v_if0 {α : Type} (a b : Slots → S → Option (α × S)) (ρ : Slots) (s : S) : ifK a b ρ false s = b ρ s := id rfl
theorem wp_if {α : Type} {a b : Slots → S → Option (α × S)} {ρ : Slots} {k : Bool} {s : S} {Q : α → S → Prop} (h1 : k = true → Wp (a ρ s) Q) (h0 : k = false → Wp (b ρ s) Q) : Wp (ifK a b ρ k s) Q := by
  cases k with
  | true => exact h1 rfl
  | false => exact h0 rfl
theorem wp_ifp {α : Type} {a b : Slots → S → Option (α × S)} {ρ : Slots} {p : Prop} [Decidable p] {s : S} {Q : α → S → Prop} (h1 : p → Wp (a ρ s) Q) (h0 : ¬ p → Wp (b ρ s) Q) : Wp (ifK a b ρ (decide p) s) Q :=
  wp_if (fun h => h1 (of_decide_eq_true h)) (fun h => h0 (of_decide_eq_false h))
def kC2 (x : D) (xs : List D) (s : S) : Option (List D × S) := some (x :: xs, s)
def kC1 (r : LM S) (ρ : Slots) (x : D) (s : S) : Option (List D × S) := bnd (r ρ s) (kC2 x)
theorem v_cons (a : EM S) (r : LM S) (ρ : Slots) (s : S) : lCons a r ρ s = bnd (a ρ s) (kC1 r ρ) := id rfl
theorem v_kc1 (r : LM S) (ρ : Slots) (x : D) (s : S) : kC1 r ρ x s = bnd (r ρ s) (kC2 x) := id rfl
theorem v_kc2 (x : D) (xs : List D) (s : S) : kC2 x xs s = some (x :: xs, s) := id rfl
def kLst (ds : List D) (s : S) : Option (D × S) := if ds.length ≤ sizeLine then some (.list ds, s) else none
def kTup (ds : List D) (s : S) : Option (D × S) := if ds.length ≤ sizeLine then some (.tuple ds, s) else none
theorem v_lst (m : LM S) (ρ : Slots) (s : S) : eLst m ρ s = bnd (m ρ s) kLst := by
  unfold eLst
  exact id rfl
theorem v_tup (m : LM S) (ρ : Slots) (s : S) : eTup m ρ s = bnd (m ρ s) kTup := by
  unfold eTup
  exact id rfl
theorem v_klst {ds : List D} {s : S} (h : ds.length ≤ 1000000) : kLst ds s = some (.list ds, s) := if_pos (szK h)
theorem v_ktup {ds : List D} {s : S} (h : ds.length ≤ 1000000) : kTup ds s = some (.tuple ds, s) := if_pos (szK h)
def kCall (g : List D → Option D) (ds : List D) (s : S) : Option (D × S) := oS (g ds) s
theorem v_call (g : List D → Option D) (m : LM S) (ρ : Slots) (s : S) : eCall g m ρ s = bnd (m ρ s) (kCall g) := by
  unfold eCall kCall; simp only [oS_eq]
theorem v_kcall (g : List D → Option D) (ds : List D) (s : S) : kCall g ds s = oS (g ds) s := id rfl
def kU (s : S) (d : D) (_ : Unit) : Option (D × S) := some (d, s)
def kCP (M : Mir Unit) (ds : List D) (s : S) : Option (D × S) := bnd (M (ds.map some) ()) (kU s)
theorem v_callP (M : Mir Unit) (m : LM S) (ρ : Slots) (s : S) : eCallP M m ρ s = bnd (m ρ s) (kCP M) := id rfl
theorem v_kcp (M : Mir Unit) (ds : List D) (s : S) : kCP M ds s = bnd (M (ds.map some) ()) (kU s) := id rfl
theorem v_ku (s : S) (d : D) (u : Unit) : kU s d u = some (d, s) := id rfl
def kCS (M : Mir DS) (ds : List D) (s : DS) : Option (D × DS) := M (none :: ds.map some) s
theorem v_callS (M : Mir DS) (m : LM DS) (ρ : Slots) (s : DS) : eCallS M m ρ s = bnd (m ρ s) (kCS M) := id rfl
theorem v_kcs (M : Mir DS) (ds : List D) (s : DS) : kCS M ds s = M (none :: ds.map some) s := id rfl
def kSc (d : D) (s : S) : Option (D × S) := if isSc d = true then some (d, s) else none
theorem v_sc (m : EM S) (ρ : Slots) (s : S) : eSc m ρ s = bnd (m ρ s) kSc := id rfl
theorem v_ksc {d : D} {s : S} (h : isSc d = true) : kSc d s = some (d, s) := if_pos h
theorem v_ksci (i : Int) (s : S) : kSc (.int i) s = some (.int i, s) := id rfl
theorem v_kscb (b : Bool) (s : S) : kSc (.bool b) s = some (.bool b, s) := id rfl
theorem v_kscn (s : S) : kSc .none s = some (.none, s) := id rfl
theorem v_kscs (a : Str) (s : S) : kSc (.str a) s = some (.str a, s) := id rfl
def kSl2 (x : D) (l : Option Int) (u : Option Int) (s : S) : Option (D × S) := oS (dSl x l u) s
def kSl1 (hi : OM S) (ρ : Slots) (x : D) (l : Option Int) (s : S) : Option (D × S) := bnd (hi ρ s) (kSl2 x l)
def kSl0 (lo hi : OM S) (ρ : Slots) (x : D) (s : S) : Option (D × S) := bnd (lo ρ s) (kSl1 hi ρ x)
theorem v_sl (a : EM S) (lo hi : OM S) (ρ : Slots) (s : S) : eSl a lo hi ρ s = bnd (a ρ s) (kSl0 lo hi ρ) := by
  unfold eSl kSl0 kSl1 kSl2; simp only [oS_eq]
theorem v_ksl0 (lo hi : OM S) (ρ : Slots) (x : D) (s : S) : kSl0 lo hi ρ x s = bnd (lo ρ s) (kSl1 hi ρ x) := id rfl
theorem v_ksl1 (hi : OM S) (ρ : Slots) (x : D) (l : Option Int) (s : S) : kSl1 hi ρ x l s = bnd (hi ρ s) (kSl2 x l) := id rfl
theorem v_ksl2 (x : D) (l u : Option Int) (s : S) : kSl2 x l u s = oS (dSl x l u) s := id rfl
def kSet (i : Nat) (ρ : Slots) (d : D) (s : S) : Option (Res × S) := some (.nx (ρ.set i (some d)), s)
theorem v_set (i : Nat) (m : EM S) (ρ : Slots) (s : S) : sSet i m ρ s = bnd (m ρ s) (kSet i ρ) := id rfl
theorem v_kset (i : Nat) (ρ : Slots) (d : D) (s : S) : kSet i ρ d s = some (.nx (ρ.set i (some d)), s) := id rfl
def kRet (d : D) (s : S) : Option (Res × S) := some (.rt d, s)
theorem v_ret (m : EM S) (ρ : Slots) (s : S) : sRet m ρ s = bnd (m ρ s) kRet := id rfl
theorem v_kret (d : D) (s : S) : kRet d s = some (.rt d, s) := id rfl
def kDrop (ρ : Slots) (_ : D) (s : S) : Option (Res × S) := some (.nx ρ, s)
theorem v_drop (m : EM S) (ρ : Slots) (s : S) : sDrop m ρ s = bnd (m ρ s) (kDrop ρ) := id rfl
theorem v_kdrop (ρ : Slots) (d : D) (s : S) : kDrop ρ d s = some (.nx ρ, s) := id rfl
def nxS (o : Option Slots) (s : S) : Option (Res × S) := match o with
  | some ρ => some (.nx ρ, s)
  | none => none
def kTg (g : GM) (ρ : Slots) (d : D) (s : S) : Option (Res × S) := nxS (g d ρ) s
theorem v_tg (m : EM S) (g : GM) (ρ : Slots) (s : S) : sTg m g ρ s = bnd (m ρ s) (kTg g ρ) := by
  unfold sTg kTg nxS
  congr 1
  funext d s
  cases g d ρ <;> rfl
theorem v_ktg (g : GM) (ρ : Slots) (d : D) (s : S) : kTg g ρ d s = nxS (g d ρ) s := id rfl
theorem v_nxs (ρ : Slots) (s : S) : nxS (some ρ) s = some (.nx ρ, s) := id rfl
theorem v_gsc (g : GM) (r : List D → Slots → Option Slots) (d : D) (ds : List D) (ρ : Slots) : gsC g r (d :: ds) ρ = (g d ρ).bind (r ds) := id rfl
def kFor (tg : GM) (body : SM S) (ρ : Slots) (ds : List D) (s : S) : Option (Res × S) := forGo tg body ds ρ s
theorem v_for (src : LM S) (tg : GM) (body : SM S) (ρ : Slots) (s : S) : sFor src tg body ρ s = bnd (src ρ s) (kFor tg body ρ) := id rfl
theorem v_kfor (tg : GM) (body : SM S) (ρ : Slots) (ds : List D) (s : S) : kFor tg body ρ ds s = forGo tg body ds ρ s := id rfl
def kApp1 (i : Nat) (me : EM S) (ρ : Slots) (l : D) (s : S) : Option (Res × S) := bnd (me ρ s) (kApp i ρ l)
theorem v_app (i : Nat) (me : EM S) (ρ : Slots) (s : S) : sApp i me ρ s = bnd (eVar i ρ s) (kApp1 i me ρ) := by
  rw [x_app]; exact id rfl
theorem v_kapp1 (i : Nat) (me : EM S) (ρ : Slots) (l : D) (s : S) : kApp1 i me ρ l s = bnd (me ρ s) (kApp i ρ l) := id rfl
theorem v_kapp {i : Nat} {ρ : Slots} {ds : List D} {d : D} {s : S} (h : ds.length < 1000000) : kApp i ρ (.list ds) d s = some (.nx (ρ.set i (some (.list (ds ++ [d])))), s) := by
  rw [x_kapp, if_pos (szL h)]
def kIx2 (i : Nat) (ρ : Slots) (d l : D) (k : D) (s : S) : Option (Res × S) := kIx i ρ d l k s
def kIx1 (i : Nat) (mi : EM S) (ρ : Slots) (d l : D) (s : S) : Option (Res × S) := bnd (mi ρ s) (kIx2 i ρ d l)
def kIx0 (i : Nat) (mi : EM S) (ρ : Slots) (d : D) (s : S) : Option (Res × S) := bnd (eVar i ρ s) (kIx1 i mi ρ d)
theorem v_six (i : Nat) (mi me : EM S) (ρ : Slots) (s : S) : sIx i mi me ρ s = bnd (me ρ s) (kIx0 i mi ρ) := by
  rw [x_six]; exact id rfl
theorem v_kix0 (i : Nat) (mi : EM S) (ρ : Slots) (d : D) (s : S) : kIx0 i mi ρ d s = bnd (eVar i ρ s) (kIx1 i mi ρ d) := id rfl
theorem v_kix1 (i : Nat) (mi : EM S) (ρ : Slots) (d l : D) (s : S) : kIx1 i mi ρ d l s = bnd (mi ρ s) (kIx2 i ρ d l) := id rfl
def stK (i : Nat) (ρ : Slots) (ds : List D) (d : D) (o : Option Nat) (s : S) : Option (Res × S) := match o with
  | some j => some (.nx (ρ.set i (some (.list (ds.set j d)))), s)
  | none => none
theorem v_kix2 (i : Nat) (ρ : Slots) (d : D) (ds : List D) (k : Int) (s : S) : kIx2 i ρ d (.list ds) (.int k) s = stK i ρ ds d (ixN ds.length k) s := by
  unfold kIx2
  rw [x_kix]
  unfold stK
  cases ixN ds.length k <;> rfl
theorem v_stk (i : Nat) (ρ : Slots) (ds : List D) (d : D) (j : Nat) (s : S) : stK i ρ ds d (some j) s = some (.nx (ρ.set i (some (.list (ds.set j d)))), s) := id rfl
def kAug1 (i : Nat) (g : Int → Int → Int) (m : EM S) (ρ : Slots) (x : D) (s : S) : Option (Res × S) := bnd (m ρ s) (kAug i g ρ x)
theorem v_aug (i : Nat) (g : Int → Int → Int) (m : EM S) (ρ : Slots) (s : S) : sAugI i g m ρ s = bnd (eVar i ρ s) (kAug1 i g m ρ) := by
  rw [x_aug]; exact id rfl
theorem v_kaug1 (i : Nat) (g : Int → Int → Int) (m : EM S) (ρ : Slots) (x : D) (s : S) : kAug1 i g m ρ x s = bnd (m ρ s) (kAug i g ρ x) := id rfl
def kLc (vs : List Nat) (tg : GM) (tt : TM S) (te : EM S) (ρ : Slots) (ds : List D) (s : S) : Option (D × S) := bnd (lcGo tg tt te (wipeS ρ vs) ds s) kLst
theorem v_lc (src : LM S) (vs : List Nat) (tg : GM) (tt : TM S) (te : EM S) (ρ : Slots) (s : S) : eLc src vs tg tt te ρ s = bnd (src ρ s) (kLc vs tg tt te ρ) := by
  rw [x_lc]; unfold kLc kLst; exact id rfl
theorem v_klc (vs : List Nat) (tg : GM) (tt : TM S) (te : EM S) (ρ : Slots) (ds : List D) (s : S) : kLc vs tg tt te ρ ds s = bnd (lcGo tg tt te (wipeS ρ vs) ds s) kLst := id rfl
def kBo (b : Bool) (s : S) : Option (D × S) := some (.bool b, s)
def kAny (k : Bool) (vs : List Nat) (tg : GM) (tt : TM S) (te : EM S) (ρ : Slots) (ds : List D) (s : S) : Option (D × S) := bnd (anyGo k tg tt te (wipeS ρ vs) ds s) kBo
theorem v_any (k : Bool) (src : LM S) (vs : List Nat) (tg : GM) (tt : TM S) (te : EM S) (ρ : Slots) (s : S) : eAny k src vs tg tt te ρ s = bnd (src ρ s) (kAny k vs tg tt te ρ) := id rfl
theorem v_kany (k : Bool) (vs : List Nat) (tg : GM) (tt : TM S) (te : EM S) (ρ : Slots) (ds : List D) (s : S) : kAny k vs tg tt te ρ ds s = bnd (anyGo k tg tt te (wipeS ρ vs) ds s) kBo := id rfl
theorem v_kbo (b : Bool) (s : S) : kBo b s = some (.bool b, s) := id rfl
def kCha2 (g' : D → D → Option D) (y w : D) (s : S) : Option (D × S) := oS (g' y w) s
def kCh3 (g' : D → D → Option D) (c : EM S) (ρ : Slots) (y : D) (o : Option D) (s : S) : Option (D × S) := match o with
  | some (.bool true) => bnd (c ρ s) (kCha2 g' y)
  | some (.bool false) => some (.bool false, s)
  | _ => none
/-- both tests done -/
def chB (k : Bool) (m : Option (D × S)) (s : S) : Option (D × S) := if k = true then m else some (.bool false, s)
def kCh1 (g g' : D → D → Option D) (c : EM S) (ρ : Slots) (x y : D) (s : S) : Option (D × S) := kCh3 g' c ρ y (g x y) s
def kCh0 (g g' : D → D → Option D) (b c : EM S) (ρ : Slots) (x : D) (s : S) : Option (D × S) := bnd (b ρ s) (kCh1 g g' c ρ x)
theorem v_chain (g g' : D → D → Option D) (a b c : EM S) (ρ : Slots) (s : S) : eChain g g' a b c ρ s = bnd (a ρ s) (kCh0 g g' b c ρ) := by
  rw [x_chain]
  unfold kCh0 kCh1 kCh3 kCha2 kCh
  congr 1
  funext x s1
  congr 1
  funext y s2
  rcases g x y with _ | d
  · rfl
  · cases d with
    | bool b =>
      cases b with
      | true =>
        show bnd _ _ = bnd _ _
        congr 1
        funext w s3
        cases g' y w <;> rfl
      | false => rfl
    | _ => rfl
theorem v_kch0 (g g' : D → D → Option D) (b c : EM S) (ρ : Slots) (x : D) (s : S) : kCh0 g g' b c ρ x s = bnd (b ρ s) (kCh1 g g' c ρ x) := id rfl
theorem v_kch1 (g g' : D → D → Option D) (c : EM S) (ρ : Slots) (x y : D) (s : S) : kCh1 g g' c ρ x y s = kCh3 g' c ρ y (g x y) s := id rfl
theorem v_kch3 (g' : D → D → Option D) (c : EM S) (ρ : Slots) (y : D) (k : Bool) (s : S) : kCh3 g' c ρ y (some (.bool k)) s = chB k (bnd (c ρ s) (kCha2 g' y)) s := by cases k <;> rfl
theorem v_kcha2 (g' : D → D → Option D) (y w : D) (s : S) : kCha2 g' y w s = oS (g' y w) s := id rfl
theorem v_chb1 (m : Option (D × S)) (s : S) : chB true m s = m := id rfl
theorem v_chb0 (m : Option (D × S)) (s : S) : chB false m s = some (.bool false, s) := id rfl
theorem v_chb (k c : Bool) (s : S) : chB k (some (.bool c, s)) s = some (.bool (k && c), s) := by cases k <;> rfl
def kSelf (o : Option (Option D)) (ρ : Slots) (s : S) : Option (Res × S) := match o with
  | some (some _) => some (.nx ρ, s)
  | _ => none
theorem v_self (i : Nat) (ρ : Slots) (s : S) : sSelf i ρ s = kSelf ρ[i]? ρ s := id rfl
theorem v_kself (d : D) (ρ : Slots) (s : S) : kSelf (some (some d)) ρ s = some (.nx ρ, s) := id rfl
theorem v_kr1 {i : Int} {s : S} (h1 : -1000000000000000000 ≤ i) (h2 : i ≤ 1000000000000000000) : kR1 [.int i] s = some (rangeD 0 i.toNat, s) := by
  rw [x_kr1, bd62_ok h1 h2, if_pos rfl]
theorem v_kr2 {i j : Int} {s : S} (h1 : -1000000000000000000 ≤ i) (h2 : i ≤ 1000000000000000000) (h3 : -1000000000000000000 ≤ j) (h4 : j ≤ 1000000000000000000) : kR2 [.int i, .int j] s = some (rangeD i (j - i).toNat, s) := by
  rw [x_kr2, bd62_ok h1 h2, bd62_ok h3 h4, Bool.and_self, if_pos rfl]
theorem v_kr1N {n : Nat} {s : S} (h : n ≤ 1000000000000000000) : kR1 [.int (n : Int)] s = some (rangeD 0 n, s) := by
  rw [v_kr1 (by omega) (by omega), Int.toNat_natCast]
def kZip (ds : List D) (s1 : S) : Option (List D × S) := match ds with
  | [.list xs, .list ys] => some (List.zipWith (fun x y => .tuple [x, y]) xs ys, s1)
  | [.tuple xs, .tuple ys] => some (List.zipWith (fun x y => .tuple [x, y]) xs ys, s1)
  | _ => none
theorem v_zip (m : LM S) (ρ : Slots) (s : S) : lZip m ρ s = bnd (m ρ s) kZip := by
  unfold lZip kZip
  exact id rfl
theorem v_kzl (xs ys : List D) (s : S) : kZip [.list xs, .list ys] s = some (List.zipWith (fun x y => .tuple [x, y]) xs ys, s) := id rfl
theorem v_kzt (xs ys : List D) (s : S) : kZip [.tuple xs, .tuple ys] s = some (List.zipWith (fun x y => .tuple [x, y]) xs ys, s) := id rfl
/-! functions -/
def kFn (r : Res) (s1 : S) : Option (D × S) := match r with
  | .rt d => some (d, s1)
  | .nx _ => some (.none, s1)
  | _ => none
theorem v_fn (n : Nat) (body : SM S) (as : Slots) (s : S) : fnM n body as s = bnd (body (as ++ List.replicate (n - as.length) none) s) kFn := by
  unfold fnM
  congr 1
theorem v_kfr (d : D) (s : S) : kFn (.rt d) s = some (d, s) := id rfl
theorem v_kfn (ρ : Slots) (s : S) : kFn (.nx ρ) s = some (.none, s) := id rfl
/-! numbers -/
theorem y_addN (a b : Nat) : (a : Int) + (b : Int) = ((a + b : Nat) : Int) := (Int.natCast_add a b).symm
theorem y_addR (a n : Nat) : (a : Int) + (no_index (OfNat.ofNat n) : Int) = ((a + no_index (OfNat.ofNat n) : Nat) : Int) := (Int.natCast_add a n).symm
theorem y_addL (a n : Nat) : (no_index (OfNat.ofNat n) : Int) + (a : Int) = ((no_index (OfNat.ofNat n) + a : Nat) : Int) := (Int.natCast_add n a).symm
theorem y_subN {a b : Nat} (h : b ≤ a) : (a : Int) - (b : Int) = ((a - b : Nat) : Int) := (Int.ofNat_sub h).symm
theorem y_subR {a n : Nat} (h : (OfNat.ofNat n : Nat) ≤ a) : (a : Int) - (no_index (OfNat.ofNat n) : Int) = ((a - no_index (OfNat.ofNat n) : Nat) : Int) := (Int.ofNat_sub h).symm
theorem y_subL {a n : Nat} (h : a ≤ (OfNat.ofNat n : Nat)) : (no_index (OfNat.ofNat n) : Int) - (a : Int) = ((no_index (OfNat.ofNat n) - a : Nat) : Int) := (Int.ofNat_sub h).symm
theorem y_mulN (a b : Nat) : (a : Int) * (b : Int) = ((a * b : Nat) : Int) := (Int.natCast_mul a b).symm
theorem y_mulR (a n : Nat) : (a : Int) * (no_index (OfNat.ofNat n) : Int) = ((a * no_index (OfNat.ofNat n) : Nat) : Int) := (Int.natCast_mul a n).symm
theorem y_mulL (a n : Nat) : (no_index (OfNat.ofNat n) : Int) * (a : Int) = ((no_index (OfNat.ofNat n) * a : Nat) : Int) := (Int.natCast_mul n a).symm
theorem y_ltN (a b : Nat) : ((a : Int) < (b : Int)) = (a < b) := propext Int.ofNat_lt
theorem y_ltR (a n : Nat) : ((a : Int) < (no_index (OfNat.ofNat n) : Int)) = (a < no_index (OfNat.ofNat n)) := propext Int.ofNat_lt
theorem y_ltL (a n : Nat) : ((no_index (OfNat.ofNat n) : Int) < (a : Int)) = (no_index (OfNat.ofNat n) < a) := propext Int.ofNat_lt
theorem y_leN (a b : Nat) : ((a : Int) ≤ (b : Int)) = (a ≤ b) := propext Int.ofNat_le
theorem y_leR (a n : Nat) : ((a : Int) ≤ (no_index (OfNat.ofNat n) : Int)) = (a ≤ no_index (OfNat.ofNat n)) := propext Int.ofNat_le
theorem y_leL (a n : Nat) : ((no_index (OfNat.ofNat n) : Int) ≤ (a : Int)) = (no_index (OfNat.ofNat n) ≤ a) := propext Int.ofNat_le
theorem y_beq (a b : Int) : (a == b) = decide (a = b) := by
  rw [Bool.eq_iff_iff, beq_iff_eq, decide_eq_true_iff]
theorem y_bne (a b : Int) : (a != b) = !decide (a = b) := by
  rw [bne, y_beq]
theorem y_eqN (a b : Nat) : ((a : Int) = (b : Int)) = (a = b) := propext Int.ofNat_inj
theorem y_eqR (a n : Nat) : ((a : Int) = (no_index (OfNat.ofNat n) : Int)) = (a = no_index (OfNat.ofNat n)) := propext (Int.ofNat_inj (m := a) (n := n))
theorem y_eqL (a n : Nat) : ((no_index (OfNat.ofNat n) : Int) = (a : Int)) = (no_index (OfNat.ofNat n) = a) := propext (Int.ofNat_inj (m := n) (n := a))
theorem y_mul {i j : Int} (h1 : -1000000000000000000 ≤ i) (h2 : i ≤ 1000000000000000000) (h3 : -1000000000000000000 ≤ j) (h4 : j ≤ 1000000000000000000) : dMul (.int i) (.int j) = some (.int (i * j)) :=
  dMul_int (Nat.lt_of_le_of_lt (by omega : i.natAbs ≤ 1000000000000000000) (by decide)) (Nat.lt_of_le_of_lt (by omega : j.natAbs ≤ 1000000000000000000) (by decide))
theorem y_mulNN {a b : Nat} (h1 : a ≤ 1000000000000000000) (h2 : b ≤ 1000000000000000000) : dMul (.int (a : Int)) (.int (b : Int)) = some (.int ((a * b : Nat) : Int)) := by
  rw [y_mul (by omega) (by omega) (by omega) (by omega), y_mulN]
theorem y_div {i j : Int} (h1 : 0 < j) (h2 : j ≤ 1000000000000000000) : dDiv (.int i) (.int j) = some (.int (i / j)) :=
  dDiv_int h1 (Nat.lt_of_le_of_lt (by omega : j.natAbs ≤ 1000000000000000000) (by decide))
theorem y_mod {i j : Int} (h1 : 0 < j) : dMod (.int i) (.int j) = some (.int (i % j)) := dMod_int h1
theorem y_divN (a b : Nat) : (a : Int) / (b : Int) = ((a / b : Nat) : Int) := (Int.natCast_ediv a b).symm
theorem y_divR (a n : Nat) : (a : Int) / (no_index (OfNat.ofNat n) : Int) = ((a / no_index (OfNat.ofNat n) : Nat) : Int) := (Int.natCast_ediv a n).symm
theorem y_modN (a b : Nat) : (a : Int) % (b : Int) = ((a % b : Nat) : Int) := (Int.natCast_emod a b).symm
theorem y_modR (a n : Nat) : (a : Int) % (no_index (OfNat.ofNat n) : Int) = ((a % no_index (OfNat.ofNat n) : Nat) : Int) := (Int.natCast_emod a n).symm
theorem y_neg (i : Int) : dNeg (.int i) = some (.int (-i)) := id rfl
theorem y_sz {n : Nat} (h : n ≤ 1000000) : (n ≤ sizeLine) = True := eq_true (szK h)
theorem y_szl {n : Nat} (h : n < 1000000) : (n < sizeLine) = True := eq_true (szL h)
theorem y_bd {i : Int} (h1 : -1000000000000000000 ≤ i) (h2 : i ≤ 1000000000000000000) : bd62 i = true := bd62_ok h1 h2
theorem y_ton (n : Nat) : ((n : Int)).toNat = n := Int.toNat_natCast n
theorem y_ton0 (n : Nat) : (no_index (OfNat.ofNat n) : Int).toNat = OfNat.ofNat n := Int.toNat_natCast n
theorem y_tosub (a b : Nat) : ((a : Int) - (b : Int)).toNat = a - b := by omega
theorem y_tosubR (a n : Nat) : ((a : Int) - (no_index (OfNat.ofNat n) : Int)).toNat = a - no_index (OfNat.ofNat n) := by
  have : (OfNat.ofNat n : Int) = ((n : Nat) : Int) := rfl
  rw [this]
  have h2 : (OfNat.ofNat n : Nat) = n := rfl
  rw [h2]
  omega
/-! rows and tables -/
theorem y_row {R : List Nat} {n : Nat} (h : n < R.length) : atI (rowD R) (n : Int) = some (.int ((R.getD n 0 : Nat) : Int)) := by
  have : R[n]? = some (R.getD n 0) := by
    rw [List.getD_eq_getElem?_getD, List.getElem?_eq_getElem h]; rfl
  rw [atI_lt (by unfold rowD; rw [List.length_map]; exact h)]
  unfold rowD
  rw [List.getElem?_map, this]
  rfl
theorem y_row0 {R : List Nat} (h : 0 < R.length) : atI (rowD R) 0 = some (.int ((R.getD 0 0 : Nat) : Int)) := y_row h
theorem y_row1 {R : List Nat} (h : 1 < R.length) : atI (rowD R) 1 = some (.int ((R.getD 1 0 : Nat) : Int)) := y_row h
theorem y_rowlen (R : List Nat) : (rowD R).length = R.length := by unfold rowD; rw [List.length_map]
theorem y_rowL {R : List Nat} (h : 0 < R.length) : atI (rowD R) (-1) = some (.int ((R.getD (R.length - 1) 0 : Nat) : Int)) := by
  have h2 := y_row (R := R) (n := R.length - 1) (by omega)
  unfold atI at h2 ⊢
  rw [y_rowlen] at h2 ⊢
  rw [ixN_nat (by omega), Option.bind_some] at h2
  have e : ixN R.length (-1) = some (R.length - 1) := by
    unfold ixN
    rw [if_neg (by omega)]
    split
    · congr 1
      omega
    · omega
  rw [e, Option.bind_some, h2]
theorem y_ix {m n : Nat} (h : n < m) : ixN m (n : Int) = some n := ixN_nat h
theorem y_ix0 {m : Nat} (h : 0 < m) : ixN m 0 = some 0 := ixN_nat (n := 0) h
def ftab {α : Type} (f : Nat → α) (m : Nat) : List α := (List.range m).map f
theorem y_flen {α : Type} (f : Nat → α) (m : Nat) : (ftab f m).length = m := by unfold ftab; rw [List.length_map, List.length_range]
theorem y_fget? {α : Type} {f : Nat → α} {m n : Nat} (h : n < m) : (ftab f m)[n]? = some (f n) := by
  unfold ftab
  rw [List.getElem?_map, List.getElem?_range h]; rfl
theorem y_fget {α : Type} {f : Nat → α} {m n : Nat} (h : n < m) : atI (ftab f m) (n : Int) = some (f n) := by
  rw [atI_lt (by rw [y_flen]; exact h)]
  exact y_fget? h
theorem ftab_congr {α : Type} {f g : Nat → α} {m : Nat} (h : ∀ n, n < m → f n = g n) : ftab f m = ftab g m := by
  unfold ftab
  exact List.map_congr_left fun n hn => h n (List.mem_range.mp hn)
theorem ftab_set {α : Type} {f : Nat → α} {m n : Nat} {v : α} : (ftab f m).set n v = ftab (fun k => if k = n then v else f k) m := by
  refine List.ext_getElem? fun i => ?_
  by_cases hi : i < m
  · rw [y_fget? hi]
    by_cases e : n = i
    · subst e
      rw [List.getElem?_set_self (by rw [y_flen]; exact hi), if_pos rfl]
    · rw [List.getElem?_set_ne e, y_fget? hi, if_neg (fun q => e q.symm)]
  · rw [List.getElem?_eq_none (by rw [List.length_set, y_flen]; omega), List.getElem?_eq_none (by rw [y_flen]; omega)]
theorem ftab_rep {α : Type} (v : α) (m : Nat) : List.replicate m v = ftab (fun _ => v) m := by
  refine List.ext_getElem? fun i => ?_
  by_cases hi : i < m
  · rw [y_fget? hi, List.getElem?_replicate, if_pos hi]
  · rw [List.getElem?_eq_none (by rw [List.length_replicate]; omega), List.getElem?_eq_none (by rw [y_flen]; omega)]
theorem ftab_cons {α : Type} (u v : α) (m : Nat) : u :: List.replicate m v = ftab (fun n => if n = 0 then u else v) (m + 1) := by
  refine List.ext_getElem? fun i => ?_
  by_cases hi : i < m + 1
  · rw [y_fget? hi]
    cases i with
    | zero => rfl
    | succ i => rw [List.getElem?_cons_succ, List.getElem?_replicate, if_pos (by omega), if_neg (by omega)]
  · rw [List.getElem?_eq_none (by rw [List.length_cons, List.length_replicate]; omega), List.getElem?_eq_none (by rw [y_flen]; omega)]
theorem y_rep1 {α : Type} (v : α) (n : Nat) : (List.replicate n [v]).flatten = List.replicate n v := rep_one v n
theorem y_repL {v : D} {n : Nat} (h : n ≤ 1000000) : dMul (.list [v]) (.int (n : Int)) = some (.list (List.replicate n v)) := by
  rw [dMul_list (by rw [List.length_singleton]; omega) (by omega), rep_one]
theorem y_repC {v : D} {n : Nat} (h : n ≤ 1000000) : dRep (.list [v]) (.int (n : Int)) = some (.list (List.replicate n v)) := by
  rw [dRep_list (by rw [List.length_singleton]; omega) (by omega), rep_one]
theorem y_cat {xs ys : List D} (h : xs.length + ys.length ≤ 1000000) : dCat (.list xs) (.list ys) = some (.list (xs ++ ys)) := if_pos (szK h)
theorem y_len (xs : List D) (n : Nat) (h : xs.length = n) : gLen [.list xs] = some (.int (n : Nat)) := by rw [← h]; rfl
theorem y_itab {f : Nat → Nat} {m n : Nat} (h : n < m) : atI (itab f m) (n : Int) = some (.int ((f n : Nat) : Int)) := by
  rw [atI_lt (by rw [itab_length]; exact h), itab_get h]
theorem ftab_snoc {α : Type} (f : Nat → α) (k : Nat) : ftab f k ++ [f k] = ftab f (k + 1) := by
  unfold ftab
  rw [List.range_succ, List.map_append]
  rfl
theorem itab_snoc (f : Nat → Nat) (k : Nat) : itab f k ++ [PyData.int ((f k : Nat) : Int)] = itab f (k + 1) := by
  unfold itab
  rw [List.range_succ, List.map_append]
  rfl
theorem atI_neg {α : Type} {xs : List α} {t : Nat} (h : t < xs.length) : atI xs (-1 - (t : Int)) = xs[xs.length - 1 - t]? := by
  have e : ixN xs.length (-1 - (t : Int)) = some (xs.length - 1 - t) := by
    unfold ixN
    rw [if_neg (by omega)]
    split
    · congr 1
      omega
    · omega
  unfold atI
  rw [e, Option.bind_some]
theorem y_fgetL {α : Type} {f : Nat → α} {m : Nat} (h : 0 < m) : atI (ftab f m) (-1) = some (f (m - 1)) := by
  have h2 := y_fget (f := f) (m := m) (n := m - 1) (by omega)
  unfold atI at h2 ⊢
  rw [y_flen] at h2 ⊢
  rw [ixN_nat (by omega), Option.bind_some] at h2
  have e : ixN m (-1) = some (m - 1) := by
    unfold ixN
    rw [if_neg (by omega)]
    split
    · congr 1
      omega
    · omega
  rw [e, Option.bind_some, h2]
theorem y_fgetL2 {α : Type} {f : Nat → α} {m : Nat} (h : 1 < m) : atI (ftab f m) (-2) = some (f (m - 2)) := by
  have h2 := y_fget (f := f) (m := m) (n := m - 2) (by omega)
  unfold atI at h2 ⊢
  rw [y_flen] at h2 ⊢
  rw [ixN_nat (by omega), Option.bind_some] at h2
  have e : ixN m (-2) = some (m - 2) := by
    unfold ixN
    rw [if_neg (by omega)]
    split
    · congr 1
      omega
    · omega
  rw [e, Option.bind_some, h2]
/-! isinstance, is -/
theorem y_isi_list_none : gIsi "list" .none = some (.bool false) := by first | exact id rfl | (unfold gIsi; rfl)
theorem y_isi_list_bool (b : Bool) : gIsi "list" (.bool b) = some (.bool false) := by first | exact id rfl | (unfold gIsi; rfl)
theorem y_isi_list_int (i : Int) : gIsi "list" (.int i) = some (.bool false) := by first | exact id rfl | (unfold gIsi; rfl)
theorem y_isi_list_str (a : Str) : gIsi "list" (.str a) = some (.bool false) := by first | exact id rfl | (unfold gIsi; rfl)
theorem y_isi_list_list (xs : List D) : gIsi "list" (.list xs) = some (.bool true) := by first | exact id rfl | (unfold gIsi; rfl)
theorem y_isi_list_tuple (xs : List D) : gIsi "list" (.tuple xs) = some (.bool false) := by first | exact id rfl | (unfold gIsi; rfl)
theorem y_isi_tuple_none : gIsi "tuple" .none = some (.bool false) := by first | exact id rfl | (unfold gIsi; rfl)
theorem y_isi_tuple_bool (b : Bool) : gIsi "tuple" (.bool b) = some (.bool false) := by first | exact id rfl | (unfold gIsi; rfl)
theorem y_isi_tuple_int (i : Int) : gIsi "tuple" (.int i) = some (.bool false) := by first | exact id rfl | (unfold gIsi; rfl)
theorem y_isi_tuple_str (a : Str) : gIsi "tuple" (.str a) = some (.bool false) := by first | exact id rfl | (unfold gIsi; rfl)
theorem y_isi_tuple_list (xs : List D) : gIsi "tuple" (.list xs) = some (.bool false) := by first | exact id rfl | (unfold gIsi; rfl)
theorem y_isi_tuple_tuple (xs : List D) : gIsi "tuple" (.tuple xs) = some (.bool true) := by first | exact id rfl | (unfold gIsi; rfl)
theorem y_isi_int_none : gIsi "int" .none = some (.bool false) := by first | exact id rfl | (unfold gIsi; rfl)
theorem y_isi_int_bool (b : Bool) : gIsi "int" (.bool b) = some (.bool true) := by first | exact id rfl | (unfold gIsi; rfl)
theorem y_isi_int_int (i : Int) : gIsi "int" (.int i) = some (.bool true) := by first | exact id rfl | (unfold gIsi; rfl)
theorem y_isi_int_str (a : Str) : gIsi "int" (.str a) = some (.bool false) := by first | exact id rfl | (unfold gIsi; rfl)
theorem y_isi_int_list (xs : List D) : gIsi "int" (.list xs) = some (.bool false) := by first | exact id rfl | (unfold gIsi; rfl)
theorem y_isi_int_tuple (xs : List D) : gIsi "int" (.tuple xs) = some (.bool false) := by first | exact id rfl | (unfold gIsi; rfl)
theorem y_isi_bool_none : gIsi "bool" .none = some (.bool false) := by first | exact id rfl | (unfold gIsi; rfl)
theorem y_isi_bool_bool (b : Bool) : gIsi "bool" (.bool b) = some (.bool true) := by first | exact id rfl | (unfold gIsi; rfl)
theorem y_isi_bool_int (i : Int) : gIsi "bool" (.int i) = some (.bool false) := by first | exact id rfl | (unfold gIsi; rfl)
theorem y_isi_bool_str (a : Str) : gIsi "bool" (.str a) = some (.bool false) := by first | exact id rfl | (unfold gIsi; rfl)
theorem y_isi_bool_list (xs : List D) : gIsi "bool" (.list xs) = some (.bool false) := by first | exact id rfl | (unfold gIsi; rfl)
theorem y_isi_bool_tuple (xs : List D) : gIsi "bool" (.tuple xs) = some (.bool false) := by first | exact id rfl | (unfold gIsi; rfl)
theorem y_isi_str_none : gIsi "str" .none = some (.bool false) := by first | exact id rfl | (unfold gIsi; rfl)
theorem y_isi_str_bool (b : Bool) : gIsi "str" (.bool b) = some (.bool false) := by first | exact id rfl | (unfold gIsi; rfl)
theorem y_isi_str_int (i : Int) : gIsi "str" (.int i) = some (.bool false) := by first | exact id rfl | (unfold gIsi; rfl)
theorem y_isi_str_str (a : Str) : gIsi "str" (.str a) = some (.bool true) := by first | exact id rfl | (unfold gIsi; rfl)
theorem y_isi_str_list (xs : List D) : gIsi "str" (.list xs) = some (.bool false) := by first | exact id rfl | (unfold gIsi; rfl)
theorem y_isi_str_tuple (xs : List D) : gIsi "str" (.tuple xs) = some (.bool false) := by first | exact id rfl | (unfold gIsi; rfl)
theorem y_is_none : dIs .none .none = some (.bool true) := by first | exact id rfl | rfl
theorem y_isn_none : dIsn .none .none = some (.bool false) := by first | exact id rfl | rfl
theorem y_is_bool (b : Bool) : dIs (.bool b) .none = some (.bool false) := by first | exact id rfl | rfl
theorem y_isn_bool (b : Bool) : dIsn (.bool b) .none = some (.bool true) := by first | exact id rfl | rfl
theorem y_is_int (i : Int) : dIs (.int i) .none = some (.bool false) := by first | exact id rfl | rfl
theorem y_isn_int (i : Int) : dIsn (.int i) .none = some (.bool true) := by first | exact id rfl | rfl
theorem y_is_str (a : Str) : dIs (.str a) .none = some (.bool false) := by first | exact id rfl | rfl
theorem y_isn_str (a : Str) : dIsn (.str a) .none = some (.bool true) := by first | exact id rfl | rfl
theorem y_is_list (xs : List D) : dIs (.list xs) .none = some (.bool false) := by first | exact id rfl | rfl
theorem y_isn_list (xs : List D) : dIsn (.list xs) .none = some (.bool true) := by first | exact id rfl | rfl
theorem y_is_tuple (xs : List D) : dIs (.tuple xs) .none = some (.bool false) := by first | exact id rfl | rfl
theorem y_isn_tuple (xs : List D) : dIsn (.tuple xs) .none = some (.bool true) := by first | exact id rfl | rfl
theorem y_eqb (a b : Bool) : dEq (.bool a) (.bool b) = some (.bool (a == b)) := by cases a <;> cases b <;> rfl
theorem y_neb (a b : Bool) : dNe (.bool a) (.bool b) = some (.bool (!(a == b))) := by cases a <;> cases b <;> rfl
theorem y_btt : (true == true) = true := id rfl
theorem y_btf : (true == false) = false := id rfl
theorem y_bft : (false == true) = false := id rfl
theorem y_bff : (false == false) = true := id rfl
theorem y_bself (a : Bool) : (a == a) = true := by cases a <;> rfl
theorem y_iself (a : Int) : (a == a) = true := by simp
/-! data that may be compared -/
structure Sh (n : Nat) (d : D) : Prop where
  c : d.canLay0 = true
  dp : d.depth ≤ n
theorem canLayAll_of : ∀ {xs : List D}, (∀ x ∈ xs, x.canLay0 = true) → PyData.canLayAll0 xs = true
  | [], _ => by simp [PyData.canLayAll0]
  | x :: xs, h => by
    simp only [PyData.canLayAll0, h x List.mem_cons_self, canLayAll_of fun y hy => h y (List.mem_cons_of_mem _ hy), Bool.and_self]
theorem depthAll_of {n : Nat} : ∀ {xs : List D}, (∀ x ∈ xs, x.depth ≤ n) → PyData.depthAll xs ≤ n
  | [], _ => by simp [PyData.depthAll]
  | x :: xs, h => by
    have h1 := h x List.mem_cons_self
    have h2 := depthAll_of fun y hy => h y (List.mem_cons_of_mem _ hy)
    simp only [PyData.depthAll]
    omega
theorem Sh.int (n : Nat) (i : Int) : Sh n (.int i) := ⟨by simp [PyData.canLay0], by simp [PyData.depth]⟩
theorem Sh.bool (n : Nat) (i : Bool) : Sh n (.bool i) := ⟨by simp [PyData.canLay0], by simp [PyData.depth]⟩
theorem Sh.none (n : Nat) : Sh n .none := ⟨by simp [PyData.canLay0], by simp [PyData.depth]⟩
theorem Sh.list {n : Nat} {xs : List D} (h : ∀ x ∈ xs, Sh n x) : Sh (n + 1) (.list xs) := ⟨by
  simp only [PyData.canLay0]
  exact canLayAll_of fun x hx => (h x hx).c, by
  have := depthAll_of fun x hx => (h x hx).dp
  simp only [PyData.depth]
  omega⟩
theorem Sh.tuple {n : Nat} {xs : List D} (h : ∀ x ∈ xs, Sh n x) : Sh (n + 1) (.tuple xs) := ⟨by
  simp only [PyData.canLay0]
  exact canLayAll_of fun x hx => (h x hx).c, by
  have := depthAll_of fun x hx => (h x hx).dp
  simp only [PyData.depth]
  omega⟩
theorem Sh.ok {n : Nat} {d : D} (h : Sh n d) (hn : n ≤ 64) : SeqAt.shaped d = true := by
  show (d.canLay0 && decide (d.depth ≤ 64)) = true
  rw [h.c, decide_eq_true (Nat.le_trans h.dp hn)]
  rfl
theorem Sh.row (n : Nat) (row : List Nat) : ∀ x ∈ rowD row, Sh n x := fun x hx => by
  unfold rowD at hx
  obtain ⟨a, _, rfl⟩ := List.mem_map.mp hx
  exact .int n _
theorem Sh.mono {n m : Nat} {d : D} (h : Sh n d) (hm : n ≤ m) : Sh m d := ⟨h.c, Nat.le_trans h.dp hm⟩
theorem eqvAll_nil (xs : List D) : PyData.eqvAll xs [] = xs.isEmpty := by cases xs <;> rfl
theorem dEq_nil {n : Nat} {xs : List D} (h : ∀ x ∈ xs, Sh n x) (hn : n < 64) : dEq (.list xs) (.list []) = some (.bool xs.isEmpty) := by
  unfold dEq
  rw [if_pos ⟨(Sh.list h).ok (by omega), (Sh.list (n := n) fun x hx => (by cases hx)).ok (by omega)⟩, PyData.eqv, eqvAll_nil]
theorem dNe_nil {n : Nat} {xs : List D} (h : ∀ x ∈ xs, Sh n x) (hn : n < 64) : dNe (.list xs) (.list []) = some (.bool (!xs.isEmpty)) := by
  unfold dNe
  rw [if_pos ⟨(Sh.list h).ok (by omega), (Sh.list (n := n) fun x hx => (by cases hx)).ok (by omega)⟩, PyData.eqv, eqvAll_nil]
theorem map_isEmpty {α β : Type} (f : α → β) (l : List α) : (l.map f).isEmpty = l.isEmpty := by cases l <;> rfl
theorem y_eqn {α : Type} (f : α → Int) (l : List α) : dEq (.list (l.map fun a => PyData.int (f a))) (.list []) = some (.bool l.isEmpty) := by
  rw [dEq_nil (n := 0) (fun x hx => by obtain ⟨a, _, rfl⟩ := List.mem_map.mp hx; exact .int _ _) (by omega), map_isEmpty]
theorem y_nen {α : Type} (f : α → Int) (l : List α) : dNe (.list (l.map fun a => PyData.int (f a))) (.list []) = some (.bool (!l.isEmpty)) := by
  rw [dNe_nil (n := 0) (fun x hx => by obtain ⟨a, _, rfl⟩ := List.mem_map.mp hx; exact .int _ _) (by omega), map_isEmpty]
theorem y_eqnr (l : List Nat) : dEq (.list (rowD l)) (.list []) = some (.bool l.isEmpty) := y_eqn (fun a : Nat => (a : Int)) l
theorem y_nenr (l : List Nat) : dNe (.list (rowD l)) (.list []) = some (.bool (!l.isEmpty)) := y_nen (fun a : Nat => (a : Int)) l
theorem y_eqnil : dEq (.list []) (.list []) = some (.bool true) := id rfl
theorem y_nenil : dNe (.list []) (.list []) = some (.bool false) := id rfl
theorem filter_isEmpty {α : Type} (p : α → Bool) (l : List α) : (l.filter p).isEmpty = l.all fun x => !p x := by
  induction l with
  | nil => rfl
  | cons x l ih => cases h : p x <;> simp [h, ih]
/-! loops -/
def forPost (I : Slots → S → Prop) (Q : Res → S → Prop) (r : Res) (s : S) : Prop := match r with
  | .nx ρ => I ρ s
  | .ct ρ => I ρ s
  | .bk ρ => Q (.nx ρ) s
  | .rt d => Q (.rt d) s
theorem z_nx (I : Slots → S → Prop) (Q : Res → S → Prop) (ρ : Slots) (s : S) : forPost I Q (.nx ρ) s = I ρ s := id rfl
theorem z_ct (I : Slots → S → Prop) (Q : Res → S → Prop) (ρ : Slots) (s : S) : forPost I Q (.ct ρ) s = I ρ s := id rfl
theorem z_bk (I : Slots → S → Prop) (Q : Res → S → Prop) (ρ : Slots) (s : S) : forPost I Q (.bk ρ) s = Q (.nx ρ) s := id rfl
theorem z_rt (I : Slots → S → Prop) (Q : Res → S → Prop) (d : D) (s : S) : forPost I Q (.rt d) s = Q (.rt d) s := id rfl
def kTurn (body : SM S) (o : Option Slots) (s : S) : Option (Res × S) := match o with
  | some ρ => body ρ s
  | none => none
def fTurn (tg : GM) (body : SM S) (d : D) (ρ : Slots) (s : S) : Option (Res × S) := kTurn body (tg d ρ) s
theorem z_turn (tg : GM) (body : SM S) (d : D) (ρ : Slots) (s : S) : fTurn tg body d ρ s = kTurn body (tg d ρ) s := id rfl
theorem z_kturn (body : SM S) (ρ : Slots) (s : S) : kTurn body (some ρ) s = body ρ s := id rfl
theorem kturn_some {body : SM S} {o : Option Slots} {s : S} {r : Res × S} (h : kTurn body o s = some r) : ∃ ρ, o = some ρ ∧ body ρ s = some r := by
  cases o with
  | none => cases h
  | some ρ => exact ⟨ρ, rfl, h⟩
theorem wp_for {tg : GM} {body : SM S} {Q : Res → S → Prop} : ∀ (ds : List D) (I : Nat → Slots → S → Prop) (ρ : Slots) (s : S), I 0 ρ s →
    (∀ i d, ds[i]? = some d → ∀ ρ s, I i ρ s → Wp (fTurn tg body d ρ s) (forPost (I (i + 1)) Q)) → (∀ ρ s, I ds.length ρ s → Q (.nx ρ) s) → Wp (forGo tg body ds ρ s) Q
  | [], I, ρ, s, h0, _, hq => ⟨_, _, rfl, hq ρ s h0⟩
  | d :: ds, I, ρ, s, h0, hb, hq => by
    obtain ⟨r, s1, e, h⟩ := hb 0 d rfl ρ s h0
    unfold fTurn at e
    obtain ⟨ρ1, e1, e2⟩ := kturn_some e
    have go : ∀ ρ2, I 1 ρ2 s1 → Wp (forGo tg body ds ρ2 s1) Q := fun ρ2 h2 => wp_for ds (fun i => I (i + 1)) ρ2 s1 h2 (fun i d' hd => hb (i + 1) d' (by simpa using hd)) (fun ρ s h => hq ρ s h)
    unfold forGo
    rw [e1]
    show Wp (bnd (body ρ1 s) _) Q
    rw [e2, bnd_mk]
    cases r with
    | nx ρ2 => exact go ρ2 h
    | ct ρ2 => exact go ρ2 h
    | bk ρ2 => exact ⟨_, _, rfl, h⟩
    | rt d => exact ⟨_, _, rfl, h⟩
theorem wp_forR {tg : GM} {body : SM S} {Q : Res → S → Prop} {lo n : Nat} {ρ : Slots} {s : S} (I : Nat → Slots → S → Prop) (h0 : I 0 ρ s)
    (hb : ∀ i, i < n → ∀ ρ s, I i ρ s → Wp (fTurn tg body (.int ((lo + i : Nat) : Int)) ρ s) (forPost (I (i + 1)) Q)) (hq : ∀ ρ s, I n ρ s → Q (.nx ρ) s) : Wp (forGo tg body (rangeD (lo : Int) n) ρ s) Q := by
  have el : (rangeD (lo : Int) n).length = n := by unfold rangeD; rw [List.length_map, List.length_range]
  refine wp_for _ I ρ s h0 (fun i d hd ρ s hi => ?_) (fun ρ s h => hq ρ s (by rw [el] at h; exact h))
  unfold rangeD at hd
  rw [List.getElem?_map] at hd
  have hin : i < n := by
    rcases Nat.lt_or_ge i n with h | h
    · exact h
    · rw [List.getElem?_eq_none (by rw [List.length_range]; exact h)] at hd; cases hd
  rw [List.getElem?_range hin] at hd
  cases hd
  exact hb i hin ρ s hi
theorem wp_forR0 {tg : GM} {body : SM S} {Q : Res → S → Prop} {n : Nat} {ρ : Slots} {s : S} (I : Nat → Slots → S → Prop) (h0 : I 0 ρ s)
    (hb : ∀ i, i < n → ∀ ρ s, I i ρ s → Wp (fTurn tg body (.int (i : Int)) ρ s) (forPost (I (i + 1)) Q)) (hq : ∀ ρ s, I n ρ s → Q (.nx ρ) s) : Wp (forGo tg body (rangeD 0 n) ρ s) Q :=
  wp_forR (lo := 0) I h0 (fun i hi ρ s h => by rw [Nat.zero_add]; exact hb i hi ρ s h) hq
theorem wp_forR1 {tg : GM} {body : SM S} {Q : Res → S → Prop} {n : Nat} {ρ : Slots} {s : S} (I : Nat → Slots → S → Prop) (h0 : I 0 ρ s)
    (hb : ∀ i, i < n → ∀ ρ s, I i ρ s → Wp (fTurn tg body (.int ((i + 1 : Nat) : Int)) ρ s) (forPost (I (i + 1)) Q)) (hq : ∀ ρ s, I n ρ s → Q (.nx ρ) s) : Wp (forGo tg body (rangeD 1 n) ρ s) Q :=
  wp_forR (lo := 1) I h0 (fun i hi ρ s h => by rw [Nat.add_comm]; exact hb i hi ρ s h) hq
theorem wp_forM {α : Type} {f : α → D} {tg : GM} {body : SM S} {Q : Res → S → Prop} {xs : List α} {ρ : Slots} {s : S} (I : Nat → Slots → S → Prop) (h0 : I 0 ρ s)
    (hb : ∀ i a, xs[i]? = some a → ∀ ρ s, I i ρ s → Wp (fTurn tg body (f a) ρ s) (forPost (I (i + 1)) Q)) (hq : ∀ ρ s, I xs.length ρ s → Q (.nx ρ) s) : Wp (forGo tg body (xs.map f) ρ s) Q := by
  refine wp_for _ I ρ s h0 (fun i d hd ρ s hi => ?_) (fun ρ s h => hq ρ s (by rw [List.length_map] at h; exact h))
  rw [List.getElem?_map] at hd
  cases e : xs[i]? with
  | none => rw [e] at hd; cases hd
  | some a => rw [e] at hd; cases hd; exact hb i a e ρ s hi
theorem wp_forRow {tg : GM} {body : SM S} {Q : Res → S → Prop} {R : List Nat} {ρ : Slots} {s : S} (I : Nat → Slots → S → Prop) (h0 : I 0 ρ s)
    (hb : ∀ (i a : Nat), R[i]? = some a → ∀ ρ s, I i ρ s → Wp (fTurn tg body (.int (a : Int)) ρ s) (forPost (I (i + 1)) Q)) (hq : ∀ ρ s, I R.length ρ s → Q (.nx ρ) s) : Wp (forGo tg body (rowD R) ρ s) Q :=
  wp_forM (f := fun a : Nat => .int (a : Int)) I h0 hb hq
/-- behind the test of a while -/
def whC (body : SM S) (I : Slots → S → Prop) (Q : Res → S → Prop) (ρ : Slots) (b : Bool) (s : S) : Prop := if b = true then Wp (body ρ s) (forPost I Q) else Q (.nx ρ) s
theorem z_wh1 (body : SM S) (I : Slots → S → Prop) (Q : Res → S → Prop) (ρ : Slots) (s : S) : whC body I Q ρ true s = Wp (body ρ s) (forPost I Q) := by
  unfold whC
  rw [if_pos rfl]
theorem z_wh0 (body : SM S) (I : Slots → S → Prop) (Q : Res → S → Prop) (ρ : Slots) (s : S) : whC body I Q ρ false s = Q (.nx ρ) s := by
  unfold whC
  rw [if_neg Bool.false_ne_true]
theorem wh_if {body : SM S} {I : Slots → S → Prop} {Q : Res → S → Prop} {ρ : Slots} {b : Bool} {s : S} (h1 : b = true → Wp (body ρ s) (forPost I Q)) (h0 : b = false → Q (.nx ρ) s) : whC body I Q ρ b s := by
  cases b with
  | true => rw [z_wh1]; exact h1 rfl
  | false => rw [z_wh0]; exact h0 rfl
theorem wh_ifp {body : SM S} {I : Slots → S → Prop} {Q : Res → S → Prop} {ρ : Slots} {p : Prop} [Decidable p] {s : S} (h1 : p → Wp (body ρ s) (forPost I Q)) (h0 : ¬ p → Q (.nx ρ) s) : whC body I Q ρ (decide p) s :=
  wh_if (fun h => h1 (of_decide_eq_true h)) (fun h => h0 (of_decide_eq_false h))
theorem wp_wh {t : TM S} {body : SM S} {Q : Res → S → Prop} {ρ : Slots} {s : S} {n : Nat} (I : Nat → Slots → S → Prop) (h0 : I n ρ s)
    (hb : ∀ n ρ s, I n ρ s → Wp (t ρ s) (whC body (fun ρ2 s2 => ∃ m, m < n ∧ I m ρ2 s2) Q ρ)) : Wp (whI t body ρ s) Q := by
  suffices h : ∀ N n ρ s, I n ρ s → n < N → ∃ r s', whGo t body N ρ s = some (r, s') ∧ Q r s' by
    obtain ⟨r, s', e, q⟩ := h (n + 1) n ρ s h0 (Nat.lt_succ_self _)
    exact ⟨r, s', whI_of e, q⟩
  intro N
  induction N with
  | zero => intro n ρ s _ h; exact absurd h (Nat.not_lt_zero _)
  | succ N ih =>
    intro n ρ s hi hm
    obtain ⟨b, s1, e1, h1⟩ := hb n ρ s hi
    unfold whGo
    rw [e1, bnd_mk]
    cases b with
    | false =>
      rw [z_wh0] at h1
      exact ⟨_, _, rfl, h1⟩
    | true =>
      rw [z_wh1] at h1
      rw [if_pos rfl]
      obtain ⟨r, s2, e2, h2⟩ := h1
      rw [e2, bnd_mk]
      cases r with
      | nx ρ2 =>
        obtain ⟨m, hm2, h3⟩ := h2
        exact ih m ρ2 s2 h3 (by omega)
      | ct ρ2 =>
        obtain ⟨m, hm2, h3⟩ := h2
        exact ih m ρ2 s2 h3 (by omega)
      | bk ρ2 => exact ⟨_, _, rfl, h2⟩
      | rt d => exact ⟨_, _, rfl, h2⟩
/-- .. by a well-founded order of states -/
theorem wp_whR {t : TM S} {body : SM S} {Q : Res → S → Prop} {ρ : Slots} {s : S} (r : S → S → Prop) (wf : ∀ {P : S → Prop}, (∀ s, (∀ s', r s' s → P s') → P s) → ∀ s, P s) (I : Slots → S → Prop) (h0 : I ρ s)
    (hb : ∀ ρ s, I ρ s → Wp (t ρ s) (whC body (fun ρ2 s2 => I ρ2 s2 ∧ r s2 s) Q ρ)) (ht : ∀ ρ s b s1, t ρ s = some (b, s1) → s1 = s) : Wp (whI t body ρ s) Q := by
  refine wf (P := fun s => ∀ ρ, I ρ s → Wp (whI t body ρ s) Q) (fun s ih ρ h => ?_) s ρ h0
  obtain ⟨b, s1, e1, h1⟩ := hb ρ s h
  obtain rfl := ht _ _ _ _ e1
  cases b with
  | false =>
    rw [z_wh0] at h1
    refine ⟨_, _, whI_of (n := 1) ?_, h1⟩
    unfold whGo
    rw [e1, bnd_mk]
    rfl
  | true =>
    rw [z_wh1] at h1
    obtain ⟨q, s2, e2, h2⟩ := h1
    have next : ∀ ρ2, I ρ2 s2 → r s2 s1 → (q = .nx ρ2 ∨ q = .ct ρ2) → Wp (whI t body ρ s1) Q := fun ρ2 i2 r2 hq => by
      obtain ⟨q3, s3, e3, h3⟩ := ih s2 r2 ρ2 i2
      obtain ⟨n, e3⟩ := whI_some e3
      refine ⟨q3, s3, whI_of (n := n + 1) ?_, h3⟩
      unfold whGo
      rw [e1, bnd_mk, if_pos rfl, e2, bnd_mk]
      rcases hq with e | e <;> subst e <;> exact e3
    cases q with
    | nx ρ2 => exact next ρ2 h2.1 h2.2 (.inl rfl)
    | ct ρ2 => exact next ρ2 h2.1 h2.2 (.inr rfl)
    | bk ρ2 =>
      refine ⟨_, _, whI_of (n := 1) ?_, h2⟩
      unfold whGo
      rw [e1, bnd_mk, if_pos rfl, e2, bnd_mk]
    | rt d =>
      refine ⟨_, _, whI_of (n := 1) ?_, h2⟩
      unfold whGo
      rw [e1, bnd_mk, if_pos rfl, e2, bnd_mk]
/-- .. or the loop ends next -/
theorem wp_whR2 {t : TM S} {body : SM S} {Q : Res → S → Prop} {ρ : Slots} {s : S} (r : S → S → Prop) (wf : ∀ {P : S → Prop}, (∀ s, (∀ s', r s' s → P s') → P s) → ∀ s, P s) (I : Slots → S → Prop) (h0 : I ρ s)
    (hb : ∀ ρ s, I ρ s → Wp (t ρ s) (whC body (fun ρ2 s2 => (I ρ2 s2 ∧ r s2 s) ∨ (t ρ2 s2 = some (false, s2) ∧ Q (.nx ρ2) s2)) Q ρ)) (ht : ∀ ρ s b s1, I ρ s → t ρ s = some (b, s1) → s1 = s) : Wp (whI t body ρ s) Q := by
  refine wf (P := fun s => ∀ ρ, I ρ s → Wp (whI t body ρ s) Q) (fun s ih ρ h => ?_) s ρ h0
  obtain ⟨b, s1, e1, h1⟩ := hb ρ s h
  obtain rfl := ht _ _ _ _ h e1
  cases b with
  | false =>
    rw [z_wh0] at h1
    refine ⟨_, _, whI_of (n := 1) ?_, h1⟩
    unfold whGo
    rw [e1, bnd_mk]
    rfl
  | true =>
    rw [z_wh1] at h1
    obtain ⟨q, s2, e2, h2⟩ := h1
    have next : ∀ ρ2, ((I ρ2 s2 ∧ r s2 s1) ∨ (t ρ2 s2 = some (false, s2) ∧ Q (.nx ρ2) s2)) → (q = .nx ρ2 ∨ q = .ct ρ2) → Wp (whI t body ρ s1) Q := fun ρ2 hI hq => by
      have inner : Wp (whI t body ρ2 s2) Q := by
        rcases hI with ⟨i2, r2⟩ | ⟨t2, q2⟩
        · exact ih s2 r2 ρ2 i2
        · refine ⟨_, _, whI_of (n := 1) ?_, q2⟩
          unfold whGo
          rw [t2, bnd_mk]
          rfl
      obtain ⟨q3, s3, e3, h3⟩ := inner
      obtain ⟨n, e3⟩ := whI_some e3
      refine ⟨q3, s3, whI_of (n := n + 1) ?_, h3⟩
      unfold whGo
      rw [e1, bnd_mk, if_pos rfl, e2, bnd_mk]
      rcases hq with e | e <;> subst e <;> exact e3
    cases q with
    | nx ρ2 => exact next ρ2 h2 (.inl rfl)
    | ct ρ2 => exact next ρ2 h2 (.inr rfl)
    | bk ρ2 =>
      refine ⟨_, _, whI_of (n := 1) ?_, h2⟩
      unfold whGo
      rw [e1, bnd_mk, if_pos rfl, e2, bnd_mk]
    | rt d =>
      refine ⟨_, _, whI_of (n := 1) ?_, h2⟩
      unfold whGo
      rw [e1, bnd_mk, if_pos rfl, e2, bnd_mk]
/-! comprehensions -/
def gTt {α : Type} (m : Slots → S → Option α) (o : Option Slots) (s : S) : Option α := match o with
  | some ρ => m ρ s
  | none => none
theorem z_gtt {α : Type} (m : Slots → S → Option α) (ρ : Slots) (s : S) : gTt m (some ρ) s = m ρ s := id rfl
theorem gtt_some {α : Type} {m : Slots → S → Option α} {o : Option Slots} {s : S} {r : α} (h : gTt m o s = some r) : ∃ ρ, o = some ρ ∧ m ρ s = some r := by
  cases o with
  | none => cases h
  | some ρ => exact ⟨ρ, rfl, h⟩
theorem wp_lc {α : Type} {tg : GM} {tt : TM S} {te : EM S} {ρ : Slots} {s : S} {l : List α} {Q : List D → S → Prop} {f : α → D} (p : α → Bool) (g : α → D)
    (h : ∀ x ∈ l, gTt tt (tg (f x) ρ) s = some (p x, s) ∧ (p x = true → gTt te (tg (f x) ρ) s = some (g x, s))) (hq : Q ((l.filter p).map g) s) : Wp (lcGo tg tt te ρ (l.map f) s) Q :=
  ⟨_, _, lcGo_map f p g (fun x hx => by
    obtain ⟨h1, h2⟩ := h x hx
    obtain ⟨ρ1, e1, e2⟩ := gtt_some h1
    exact ⟨ρ1, e1, e2, fun hp => by have := h2 hp; rw [e1] at this; exact this⟩), hq⟩
theorem wp_lcA {α : Type} {tg : GM} {te : EM S} {ρ : Slots} {s : S} {l : List α} {Q : List D → S → Prop} {f : α → D} (g : α → D)
    (h : ∀ x ∈ l, gTt te (tg (f x) ρ) s = some (g x, s)) (hq : Q (l.map g) s) : Wp (lcGo tg tYe te ρ (l.map f) s) Q :=
  ⟨_, _, lcGo_all f g (fun x hx => by
    obtain ⟨ρ1, e1, e2⟩ := gtt_some (h x hx)
    exact ⟨ρ1, e1, e2⟩), hq⟩
theorem rangeD_map (lo n : Nat) : rangeD (lo : Int) n = (List.range n).map fun i : Nat => .int ((lo + i : Nat) : Int) := by
  unfold rangeD
  exact List.map_congr_left fun i _ => by rw [Int.natCast_add]
theorem rangeD_map0 (n : Nat) : rangeD 0 n = (List.range n).map fun i : Nat => .int (i : Int) := by
  unfold rangeD
  exact List.map_congr_left fun i _ => by rw [Int.zero_add]
theorem rangeD_map1 (n : Nat) : rangeD 1 n = (List.range n).map fun i : Nat => .int ((i + 1 : Nat) : Int) := by
  unfold rangeD
  exact List.map_congr_left fun i _ => by rw [Int.add_comm]; rfl
theorem wp_any {α : Type} {k : Bool} {tg : GM} {te : EM S} {ρ : Slots} {s : S} {l : List α} {Q : Bool → S → Prop} {f : α → D} (p : α → Bool)
    (h : ∀ x ∈ l, gTt te (tg (f x) ρ) s = some (.bool (p x), s)) (hq : Q (if k = true then l.any p else l.all p) s) : Wp (anyGo k tg tYe te ρ (l.map f) s) Q := by
  refine ⟨_, _, ?_, hq⟩
  clear hq
  induction l with
  | nil => cases k <;> rfl
  | cons x l ih =>
    obtain ⟨ρ1, e1, e2⟩ := gtt_some (h x List.mem_cons_self)
    have ih := ih (fun y hy => h y (List.mem_cons_of_mem _ hy))
    rw [List.map_cons]
    unfold anyGo
    rw [e1, Option.bind_some]
    have ht : tYe ρ1 s = some (true, s) := rfl
    rw [ht, bnd_mk, if_pos rfl, e2, bnd_mk]
    cases hp : p x <;> cases k <;> simp only [hp, List.any_cons, List.all_cons, Bool.false_or, Bool.true_or, Bool.true_and, Bool.false_and, if_true, if_false, Bool.false_eq_true, Bool.true_eq_false, reduceIte]
    · exact ih
    · exact ih
/-! slices, lists of a kind, max and min -/
theorem sIx_n (n d : Nat) (k : Nat) : HT.sIx n d (some (k : Int)) = min k n := by
  show (if ((k : Int) < 0) then ((k : Int) + (n : Int)).toNat else min ((k : Int)).toNat n) = _
  rw [if_neg (by omega), Int.toNat_natCast]
theorem cut_take (xs : List D) (k : Nat) : cutD xs none (some (k : Int)) = xs.take k := by
  unfold cutD
  rw [sIx_n]
  have h1 : HT.sIx xs.length 0 none = 0 := rfl
  rw [h1, List.drop_zero, Nat.sub_zero, ← List.take_eq_take_min]
theorem cut_drop (xs : List D) (k : Nat) : cutD xs (some (k : Int)) none = xs.drop k := by
  unfold cutD
  rw [sIx_n]
  have h1 : HT.sIx xs.length xs.length none = xs.length := rfl
  rw [h1, List.take_of_length_le (by rw [List.length_drop]; omega)]
  rcases Nat.le_total k xs.length with h | h
  · rw [Nat.min_eq_left h]
  · rw [Nat.min_eq_right h, List.drop_of_length_le (Nat.le_refl _), List.drop_of_length_le h]
theorem y_slT (xs : List D) (k : Nat) : dSl (.list xs) none (some (k : Int)) = some (.list (xs.take k)) := by rw [← cut_take]; exact rfl
theorem y_slD (xs : List D) (k : Nat) : dSl (.list xs) (some (k : Int)) none = some (.list (xs.drop k)) := by rw [← cut_drop]; exact rfl
theorem y_slTt (xs : List D) (k : Nat) : dSl (.tuple xs) none (some (k : Int)) = some (.tuple (xs.take k)) := by rw [← cut_take]; exact rfl
theorem y_slDt (xs : List D) (k : Nat) : dSl (.tuple xs) (some (k : Int)) none = some (.tuple (xs.drop k)) := by rw [← cut_drop]; exact rfl
theorem y_slD1 (xs : List D) : dSl (.list xs) (some 1) none = some (.list (xs.drop 1)) := y_slD xs 1
theorem y_slD1t (xs : List D) : dSl (.tuple xs) (some 1) none = some (.tuple (xs.drop 1)) := y_slDt xs 1
theorem y_slM1 (xs : List D) : dSl (.list xs) none (some (-1)) = some (.list (xs.take (xs.length - 1))) := by
  show some (PyData.list (cutD xs none (some (-1)))) = _
  unfold cutD
  have h1 : HT.sIx xs.length 0 none = 0 := rfl
  have h2 : HT.sIx xs.length xs.length (some (-1)) = xs.length - 1 := by
    show (if ((-1 : Int) < 0) then (-1 + (xs.length : Int)).toNat else min ((-1 : Int)).toNat xs.length) = _
    rw [if_pos (by omega)]
    omega
  rw [h1, h2, List.drop_zero, Nat.sub_zero]
theorem y_slM1t (xs : List D) : dSl (.tuple xs) none (some (-1)) = some (.tuple (xs.take (xs.length - 1))) := by
  have := y_slM1 xs
  injection this with h
  injection h with h
  show some (PyData.tuple (cutD xs none (some (-1)))) = _
  rw [h]
theorem y_addL2 {xs ys : List D} (h : xs.length + ys.length ≤ 1000000) : dAdd (.list xs) (.list ys) = some (.list (xs ++ ys)) := if_pos (szK h)
theorem y_addT2 {xs ys : List D} (h : xs.length + ys.length ≤ 1000000) : dAdd (.tuple xs) (.tuple ys) = some (.tuple (xs ++ ys)) := if_pos (szK h)
theorem y_max2 (a b : Nat) : gMax2 [.int (a : Int), .int (b : Int)] = some (.int ((max a b : Nat) : Int)) := by
  show some (PyData.int (if (b : Int) > (a : Int) then (b : Int) else (a : Int))) = _
  congr 2
  split <;> omega
theorem y_min2 (a b : Nat) : gMin2 [.int (a : Int), .int (b : Int)] = some (.int ((min a b : Nat) : Int)) := by
  show some (PyData.int (if (b : Int) < (a : Int) then (b : Int) else (a : Int))) = _
  congr 2
  split <;> omega
theorem gcd_mm (a b : Nat) : Nat.gcd (max a b) (min a b) = Nat.gcd a b := by
  rcases Nat.le_total a b with h | h
  · rw [Nat.max_eq_right h, Nat.min_eq_left h, Nat.gcd_comm]
  · rw [Nat.max_eq_left h, Nat.min_eq_right h]
theorem y_allm {α : Type} (p : α → Bool) (l : List α) : gAll [.list (l.map fun a => PyData.bool (p a))] = some (.bool (l.all p)) := by
  show (bools? _).bind _ = _
  have : (l.map fun a => PyData.bool (p a)) = (l.map p).map PyData.bool := by rw [List.map_map]; rfl
  rw [this, bools?_map, Option.bind_some, List.all_map]; rfl
theorem y_anym {α : Type} (p : α → Bool) (l : List α) : gAny [.list (l.map fun a => PyData.bool (p a))] = some (.bool (l.any p)) := by
  show (bools? _).bind _ = _
  have : (l.map fun a => PyData.bool (p a)) = (l.map p).map PyData.bool := by rw [List.map_map]; rfl
  rw [this, bools?_map, Option.bind_some, List.any_map]; rfl
theorem atI_map {α : Type} {f : α → D} {xs : List α} {i : Nat} {x : α} (h : xs[i]? = some x) : atI (xs.map f) (i : Int) = some (f x) := by
  have hl := (List.getElem?_eq_some_iff.mp h).1
  rw [atI_lt (by rw [List.length_map]; exact hl), List.getElem?_map, h]; rfl
theorem atI_last' {xs : List D} {x : D} (h : xs[xs.length - 1]? = some x) : atI xs (-1) = some x := by
  have hl := (List.getElem?_eq_some_iff.mp h).1
  unfold atI
  have e : ixN xs.length (-1) = some (xs.length - 1) := by
    unfold ixN
    rw [if_neg (by omega)]
    split
    · congr 1
      omega
    · omega
  rw [e, Option.bind_some, h]
theorem atI_lastm {α : Type} {f : α → D} {xs : List α} {x : α} (h : xs[xs.length - 1]? = some x) : atI (xs.map f) (-1) = some (f x) :=
  atI_last' (by rw [List.length_map, List.getElem?_map, h]; rfl)
theorem atI_map0 {α : Type} {f : α → D} {xs : List α} {x : α} (h : xs[0]? = some x) : atI (xs.map f) 0 = some (f x) := atI_map (i := 0) h
theorem take_last {α : Type} {l : List α} {i : Nat} {x : α} (h : l[i]? = some x) : (l.take (i + 1))[(l.take (i + 1)).length - 1]? = some x := by
  have hl := (List.getElem?_eq_some_iff.mp h).1
  rw [List.length_take, List.getElem?_take, show min (i + 1) l.length - 1 = i by omega, if_pos (by omega), h]
theorem take_snoc {α : Type} {l : List α} {i : Nat} {x : α} (h : l[i]? = some x) : l.take i ++ [x] = l.take (i + 1) := by
  have hl := (List.getElem?_eq_some_iff.mp h).1
  have e : l[i] = x := (List.getElem?_eq_some_iff.mp h).2
  rw [← e, List.take_append_getElem]
theorem maxI_row {R : List Nat} (hne : R ≠ []) : ∃ M : Nat, maxI (R.map fun a : Nat => (a : Int)) = (M : Int) ∧ M ∈ R ∧ ∀ a ∈ R, a ≤ M := by
  obtain ⟨M, hM, e⟩ := List.mem_map.mp (maxI_mem (R.map fun a : Nat => (a : Int)) (by simpa using hne))
  exact ⟨M, e.symm, hM, fun a ha => by have := maxI_le _ _ (List.mem_map.mpr ⟨a, ha, rfl⟩ : (a : Int) ∈ R.map fun a : Nat => (a : Int)); omega⟩
theorem rowD_int (R : List Nat) : rowD R = (R.map fun a : Nat => (a : Int)).map PyData.int := by rw [List.map_map]; rfl
theorem gMaxG_row {R : List Nat} (hne : R ≠ []) : ∃ M : Nat, gMaxG [.tuple (rowD R)] = some (.int (M : Int)) ∧ gMaxG [.list (rowD R)] = some (.int (M : Int)) ∧ M ∈ R ∧ ∀ a ∈ R, a ≤ M := by
  obtain ⟨M, h1, h2, h3⟩ := maxI_row hne
  have h0 : (R.map fun a : Nat => (a : Int)) ≠ [] := by simpa using hne
  have t : gMax [.tuple (rowD R)] = some (.int (M : Int)) := by
    rw [rowD_int]
    show (ints? _).bind _ = _
    rw [ints?_map, Option.bind_some, if_pos h0, h1]
  have l : gMax [.list (rowD R)] = some (.int (M : Int)) := by
    rw [rowD_int]
    show (ints? _).bind _ = _
    rw [ints?_map, Option.bind_some, if_pos h0, h1]
  exact ⟨M, by rw [x_maxg, t]; rfl, by rw [x_maxg, l]; rfl, h2, h3⟩
theorem gMinG_row {R : List Nat} (hne : R ≠ []) : ∃ M : Nat, gMinG [.tuple (rowD R)] = some (.int (M : Int)) ∧ gMinG [.list (rowD R)] = some (.int (M : Int)) ∧ M ∈ R ∧ ∀ a ∈ R, M ≤ a := by
  have h0 : (R.map fun a : Nat => (a : Int)) ≠ [] := by simpa using hne
  obtain ⟨M, hM, e⟩ := List.mem_map.mp (minI_mem (R.map fun a : Nat => (a : Int)) h0)
  have h3 : ∀ a ∈ R, M ≤ a := fun a ha => by have := minI_le _ _ (List.mem_map.mpr ⟨a, ha, rfl⟩ : (a : Int) ∈ R.map fun a : Nat => (a : Int)); omega
  have t : gMin [.tuple (rowD R)] = some (.int (M : Int)) := by
    rw [rowD_int]
    show (ints? _).bind _ = _
    rw [ints?_map, Option.bind_some, if_pos h0, e]
  have l : gMin [.list (rowD R)] = some (.int (M : Int)) := by
    rw [rowD_int]
    show (ints? _).bind _ = _
    rw [ints?_map, Option.bind_some, if_pos h0, e]
  exact ⟨M, by rw [x_ming, t]; rfl, by rw [x_ming, l]; rfl, hM, h3⟩
/-! draws -/
theorem wp_drawI {s : DS} {n : Int} {Q : D → DS → Prop} (h : Ok2 s) (hn : 0 < n) (hz : n ≤ 1000000000000000000) (hq : ∀ (v : Nat) s', (v : Int) < n → Ok2 s' → Q (.int (v : Int)) s') : Wp (m_draw [none, some (.int n)] s) Q := by
  have hz2 : n.natAbs.log2 < 9000 := by
    have h1 : n.natAbs < 2 ^ 60 := Nat.lt_of_le_of_lt (by omega : n.natAbs ≤ 1000000000000000000) (by decide)
    have h2 : n.natAbs ≠ 0 := by omega
    have := (Nat.log2_lt h2).mpr h1
    omega
  have d1 := draw_ok2 (n := n) h hn hz2
  obtain ⟨q1, q2, _⟩ := drawI_ok (n := n) h.1 hn
  have o1 := drawI_ok2 (n := n) h hn
  obtain ⟨k, hk⟩ := Int.eq_ofNat_of_zero_le q1
  rw [hk] at d1 q2
  exact ⟨_, _, d1, hq k _ q2 o1⟩
theorem wp_draw {s : DS} {n : Nat} {Q : D → DS → Prop} (h : Ok2 s) (hn : 0 < n) (hz : n ≤ 1000000000000000000) (hq : ∀ (v : Nat) s', v < n → Ok2 s' → Q (.int (v : Int)) s') : Wp (m_draw [none, some (.int (n : Int))] s) Q :=
  wp_drawI h (by omega) (by omega) fun v s' hv => hq v s' (by omega)
/-- a comprehension that changes the state -/
theorem wp_lcI {α β S : Type} {tg : GM} {te : EM S} {ρ : Slots} {f : α → D} {Q : List D → S → Prop} (I : S → Prop) (P : β → Prop) (g : β → D) : ∀ (l : List α) (s : S), I s →
    (∀ x ∈ l, ∀ s, I s → Wp (gTt te (tg (f x) ρ) s) fun y s' => ∃ b, y = g b ∧ P b ∧ I s') → (∀ (bs : List β) s', bs.length = l.length → (∀ b ∈ bs, P b) → I s' → Q (bs.map g) s') → Wp (lcGo tg tYe te ρ (l.map f) s) Q
  | [], s, hs, _, hq => ⟨_, _, rfl, hq [] s rfl (fun _ h => by cases h) hs⟩
  | x :: l, s, hs, h, hq => by
    obtain ⟨y, s1, e0, b, rfl, pb, hs1⟩ := h x List.mem_cons_self s hs
    obtain ⟨ρ1, e1, e2⟩ := gtt_some e0
    obtain ⟨ys, s2, e3, q⟩ := wp_lcI (te := te) (tg := tg) (ρ := ρ) (f := f) (Q := fun ys s2 => ∃ bs : List β, ys = bs.map g ∧ bs.length = l.length ∧ (∀ b ∈ bs, P b) ∧ I s2) I P g l s1 hs1 (fun x hx => h x (List.mem_cons_of_mem _ hx)) (fun bs s' h1 h2 h3 => ⟨bs, rfl, h1, h2, h3⟩)
    obtain ⟨bs, rfl, h1, h2, h3⟩ := q
    refine ⟨_, s2, ?_, hq (b :: bs) s2 (by rw [List.length_cons, List.length_cons, h1]) (fun c hc => (List.mem_cons.mp hc).elim (fun e => by rw [e]; exact pb) (h2 c)) h3⟩
    rw [List.map_cons]
    unfold lcGo
    rw [e1, Option.bind_some]
    have ht : tYe ρ1 s = some (true, s) := rfl
    rw [ht, bnd_mk, if_pos rfl, e2, bnd_mk, e3, bnd_mk, List.map_cons]
/-- a comprehension whose test changes the state -/
theorem wp_lcS {α S : Type} {tg : GM} {tt : TM S} {te : EM S} {ρ : Slots} {f : α → D} {Q : List D → S → Prop} (I : S → Prop) (g : α → D) : ∀ (l : List α) (s : S), I s →
    (∀ x ∈ l, ∀ s, I s → Wp (gTt tt (tg (f x) ρ) s) fun b s' => I s' ∧ (b = true → gTt te (tg (f x) ρ) s' = some (g x, s'))) → (∀ (l' : List α) s', l'.Sublist l → I s' → Q (l'.map g) s') → Wp (lcGo tg tt te ρ (l.map f) s) Q
  | [], s, hs, _, hq => ⟨_, _, rfl, hq [] s (List.Sublist.refl _) hs⟩
  | x :: l, s, hs, h, hq => by
    obtain ⟨b, s1, e0, hs1, hb⟩ := h x List.mem_cons_self s hs
    obtain ⟨ρ1, e1, e2⟩ := gtt_some e0
    obtain ⟨ys, s2, e3, l', rfl, h1, h2⟩ := wp_lcS (tt := tt) (te := te) (tg := tg) (ρ := ρ) (f := f) (Q := fun ys s2 => ∃ l' : List α, ys = l'.map g ∧ l'.Sublist l ∧ I s2) I g l s1 hs1 (fun x hx => h x (List.mem_cons_of_mem _ hx)) (fun l' s' h1 h2 => ⟨l', rfl, h1, h2⟩)
    rw [List.map_cons]
    unfold lcGo
    rw [e1, Option.bind_some, e2, bnd_mk]
    cases b with
    | false =>
      rw [if_neg Bool.false_ne_true]
      exact ⟨_, s2, e3, hq l' s2 (h1.trans (List.sublist_cons_self _ _)) h2⟩
    | true =>
      have := hb rfl
      rw [e1] at this
      have this : te ρ1 s1 = some (g x, s1) := this
      rw [if_pos rfl, this, bnd_mk, e3, bnd_mk]
      exact ⟨_, s2, rfl, hq (x :: l') s2 (h1.cons₂ x) h2⟩
theorem ex_least {P : Nat → Prop} (h : ∃ n, P n) : ∃ n, P n ∧ ∀ m, m < n → ¬ P m := by
  obtain ⟨n, hn⟩ := h
  refine Classical.byContradiction fun z => ?_
  have : ∀ k, ∀ m, m ≤ k → ¬ P m := by
    intro k
    induction k with
    | zero => intro m hm hp; exact z ⟨m, hp, fun j hj => by omega⟩
    | succ k ih =>
      intro m hm hp
      exact z ⟨m, hp, fun j hj => ih j (by omega)⟩
  exact this n n (Nat.le_refl n) hn
end G

/-! More rules: max of three. -/
namespace G
open PySem PySem.Spec PyProof.Rows L2
theorem nuMax3_int (i j k : Int) : nuMax3 (.int i) (.int j) (.int k) = some (.int (max (max i j) k)) := by
  have h : ∀ a b : Int, nuMax2 (.int a) (.int b) = some (.int (max a b)) := fun a b => by
    unfold nuMax2 nuLt nuCB
    show (Option.map (fun c => if c = true then V.int b else V.int a) (some (decide (a < b)))) = _
    rw [Option.map_some]
    by_cases q : a < b
    · rw [if_pos (decide_eq_true q), Int.max_eq_right (by omega)]
    · rw [if_neg (by simpa using q), Int.max_eq_left (by omega)]
  unfold nuMax3
  rw [h, Option.bind_some, h]
def gMax3 : List D → Option D
  | [.int i, .int j, .int k] => some (.int (max (max i j) k))
  | _ => none
theorem cd_max3 {K : Frag} : CallD K (rNuC3 nuMax3) gMax3 := by
  intro F H vs ds d sm rv e Q q
  unfold gMax3 at e
  split at e
  · cases e
    cases rv with
    | cons r1 rv =>
      cases rv with
      | cons r2 rv =>
        cases rv with
        | cons r3 rv =>
          cases rv
          cases r1
          cases r2
          cases r3
          exact ⟨_, _, _, _, rfl, nuMax3_int _ _ _, q F H _ (Ext.refl sm) (.int _)⟩
  · cases e
/-- a call of a def with the state that goes too deep: nothing is promised -/
theorem callS_zero [Tabs] {P : Program} {w : World} {K : Frag} {mg : Str → Option Value} {base : Heap} {x : Str} {st : Stmt} {ps : List Str} {k n : Nat} (h : Has K mg x st) (hn : ps.length = n)
    (hb : ∀ (kV doc pm : Value) (an : Option Addr) (cdv ct : Value) (us : List Value), us.length = ps.length → bindArgs (PySem.W.fnOf x x (defArgs st) (defBody st) (defScope st) .none kV doc pm an cdv ct) ⟨us, []⟩ = pure (ps.zip us)) : CallS P w K mg base x k ps n (fun _ _ => none) := by
  obtain ⟨f, fd, F, g⟩ := h
  refine ⟨f, fd, ⟨fun vs H Q E h => ?_, fun A outer s H args us vs Q E hr he hbb hv hs => ?_⟩, g, F.kp, F.binds hb⟩
  · obtain ⟨_, _, _, _, _, _, _, _, _, h1, _⟩ := h
    rw [h1, hn]
  · obtain ⟨_, _, _, _, _, _, _, _, _, _, _, _, _, _, h1, _⟩ := hs
    cases h1
theorem y_max3 (i j k : Int) : gMax3 [.int i, .int j, .int k] = some (.int (max (max i j) k)) := id rfl
/-! sorted of a tuple of ints -/
theorem collect_seqE {prog : Program} {w : World} {A : Around} {E : Value → Shared → Prop} {s : Shared} {Q : List Value → Shared → Prop} (it : Addr) {T : String} {o : Obj} {items : Array Value} {n : Nat} (hT : T = "list" ∨ T = "tuple")
    (ho : s.heap.get? it = some o) (hc : o.cls = .type T) (hd : o.data = .seq items n)
    (hQ : Q items.toList { s with heap := (s.heap.push (seqObj "list" #[] 0)).update s.heap.objs.size (Obj.mapSeq (· ++ items)) }) (hsz : items.size ≤ sizeLine) :
    wpAny (model prog w) A (collect (.ref it)) Q E s := by
  unfold collect
  refine wpAny_bind (wpAny_runValue (codeAny_builtin PySem.F.entry_proto_collect ?_))
  rw [Around.under_plainId PySem.F.plain_proto_collect _]
  show wpAny _ A.in1 (newList [] >>= fun l => again (.builtin "list.__iadd__" ⟨[l, .ref it], []⟩)) _ _ s
  refine wpAny_bind (wpAny_newObj_type ?_)
  refine wpAny_pure ⟨plainId_quiet PySem.F.plain_list_iadd _, codeAny_builtin PySem.F.entry_list_iadd ?_⟩
  rw [Around.under_plainId PySem.F.plain_list_iadd _]
  show wpAny _ A.in1 (Builtin.List.listExtendWith (.ref s.heap.objs.size) (.ref it) (.ref s.heap.objs.size)) _ _ _
  have hS : (s.heap.push { cls := .type "list", data := .seq ([] : List Value).toArray }).get? s.heap.objs.size = some { cls := .type "list", data := .seq #[] 0 } := Heap.get?_push_size _ rfl
  have hS₂ := Heap.get?_update_self (Obj.mapSeq (· ++ items)) hS rfl
  have fin' : wpAny (model prog w) A (match Value.ref s.heap.objs.size with
      | Value.ref a => do
        match (← load a).data with
          | Data.seq xs _ => pure xs.toList
          | _ => unsupported "internal:collect"
      | _ => unsupported "internal:collect") Q E { s with heap := (s.heap.push { cls := .type "list", data := .seq ([] : List Value).toArray }).update s.heap.objs.size (Obj.mapSeq (· ++ items)) } := by
    show wpAny _ A (load s.heap.objs.size >>= _) _ _ _
    refine wpAny_bind (wpAny_load hS₂ ?_)
    refine wpAny_pure ?_
    have e : ((#[] : Array Value) ++ items).toList = items.toList := by simp
    show Q ((#[] : Array Value) ++ items).toList _
    rw [e]
    exact hQ
  refine wpAny_mono (wpAny_extend_seq (hsz := hsz) (A := A) (R := fun r s' => r = .ok (.ret (.ref s.heap.objs.size)) ∧ s' = { s with heap := (s.heap.push { cls := .type "list", data := .seq ([] : List Value).toArray }).update s.heap.objs.size (Obj.mapSeq (· ++ items)) })
    (s := { s with heap := s.heap.push { cls := .type "list", data := .seq ([] : List Value).toArray } }) _ it _ 0 hT hS (Heap.get?_push_of_some _ ho) hc hd ⟨rfl, rfl⟩) (fun fin s' h => ?_) (fun e s' h => ?_)
  · cases fin with
    | done f =>
      obtain ⟨e, rfl⟩ := h
      cases e
      exact fin'
    | again c' => exact ⟨h.1, codeAny_mono h.2 fun r s'' hr => by obtain ⟨rfl, rfl⟩ := hr; exact fin'⟩
  · exact absurd h.1 (by simp)
def rSortedV (K : Frag) : List V → Hp → VK → Prop := fun vs H Q => ∃ (a : Addr) (ns : List Int), vs = [V.ref a] ∧ SqT K H a (ns.map V.int) ∧
  ∀ (ns' : List Int) (p : Addr), ns'.Perm ns → ns'.Pairwise (· ≤ ·) → H p = none → Q (.ref p) (upd H p (.lst (ns'.map V.int)))
section
variable {X : Cx}
theorem cr_sortedV : CallR X (.builtin "sorted") (rSortedV X.K) := by
  intro pins s σ H vs us Q I r h
  obtain ⟨a, ns, rfl, hs, q⟩ := h
  obtain ⟨its, rv, ⟨o, ho, hc, n, hd⟩, hz⟩ := I.tuple hs
  rw [Vals.ref1 r]
  have hi := rv.ints
  have hil : its.length ≤ sizeLine := by rw [← rv.length]; exact hz
  refine Calls.call_function_entry kind_sorted plain_sorted entry_sorted (args_sorted1 _) ?_
  unfold Builtin.«sorted»
  refine wpAny_bind (m := checkCount "sorted" 1 1 _) (wpAny_pure ?_)
  refine wpAny_bind (collect_seqE a (.inr rfl) ho hc hd ?_ (by simpa using hil))
  obtain ⟨h', eh⟩ : ∃ h', h' = (s.heap.push (seqObj "list" #[] 0)).update s.heap.objs.size (Obj.mapSeq (· ++ its.toArray)) := ⟨_, rfl⟩
  have hk : ∀ b u, s.heap.get? b = some u → h'.get? b = some u := fun b u q => by
    have hlt : b < s.heap.objs.size := Heap.lt_size q
    rw [eh, Heap.get?_update_ne _ _ _ _ (Nat.ne_of_lt hlt)]
    exact Heap.get?_push_of_some _ q
  have hp : s.heap.objs.size ≤ h'.objs.size := by
    rw [eh, Heap.size_update, size_push']
    exact Nat.le_succ _
  rw [← eh, show its.toArray.toList = its from rfl]
  refine wpAny_bind (wpAny_newList ?_ hil)
  have hoL : (h'.push (seqObj "list" its.toArray 0)).get? h'.objs.size = some (seqObj "list" its.toArray 0) := Heap.get?_push_size _ rfl
  refine wpAny_bind (wpAny_holding (wpAny_call_entry slot_list_sort ⟨_, hoL, rfl⟩ entry_list_sort
    (SrtO.list_sort_ord SrtO.swo_int hoL hil (fun h2 => SrtO.ints_sortable hi h2) fun out q1 q2 => ⟨_, rfl, ?_⟩) (args_list_sort _)))
  obtain ⟨k1, k2, k3⟩ := SrtO.ints_out hi q1 q2
  obtain ⟨c, hc'⟩ := sortedHeap_at (vs := its) (out := out.toArray) hoL
  have hlen : ((out.map SrtO.iv).map V.int).length ≤ sizeLine := by
    rw [List.length_map, k2.length_eq]
    rw [List.length_map] at hz
    exact hz
  refine wpAny_pure ⟨_, rfl, .ref _, upd H h'.objs.size (.lst ((out.map SrtO.iv).map V.int)), I.laid (t' := s.toks) (fun b u e => ?_) hp ⟨hlen, out, c, vals_of_ints k1, hc'⟩, rfl, q _ _ k2 k3 (I.hok.fresh hp)⟩
  have q := hk b u e
  have hlt := Heap.lt_size q
  show (sortedHeap (h'.push (seqObj "list" its.toArray 0)) h'.objs.size its out.toArray).get? b = some u
  rw [sortedHeap_old (Nat.ne_of_lt hlt) (by rw [size_push']; exact Nat.lt_succ_of_lt hlt)]
  exact Heap.get?_push_of_some _ q
def rSortedW (K : Frag) : List V → Hp → VK → Prop := fun vs H Q => rSortedA K vs H Q ∨ rSortedV K vs H Q
theorem cr_sortedW : CallR X (.builtin "sorted") (rSortedW X.K) := by
  intro pins s σ H vs us Q I r h
  rcases h with h | h
  · exact cr_sortedA pins s σ H vs us Q I r h
  · exact cr_sortedV pins s σ H vs us Q I r h
end
def gSortedV : List D → Option D
  | [.tuple ds] => (ints? ds).bind fun ns => some (.list ((sortI ns).map .int))
  | _ => none
def gSortedW (ds : List D) : Option D := orD (gSortedG ds) (gSortedV ds)
theorem co_sortedW {K : Frag} : CallO K (rSortedW K) gSortedW := by
  intro F H vs ds d sm rv e Q q
  rcases orD_some e with e | e
  · exact .inl (co_sortedG F H vs ds d sm rv e Q q)
  · unfold gSortedV at e
    split at e
    · obtain ⟨ns, e1, e⟩ := bind_some e
      cases e
      have := ints?_eq e1
      subst this
      obtain ⟨v, rfl, r⟩ := rp1 rv
      cases r with
      | tup h1 p1 =>
        have := RpAll.of_ints p1
        subst this
        refine .inr ⟨_, ns, rfl, seqT sm h1, fun ns' p hp hs np => ?_⟩
        have : ns' = sortI ns := G.sorted_unique (hp.trans (sortI_perm ns).symm) hs (sortI_sorted ns)
        subst this
        exact q _ p _ _ (Ext.newO sm np) rfl np upd_same (RpAll.ints _)
    · cases e
end G

set_option maxHeartbeats 4000000
namespace K40
open PySem PySem.Spec PyProof.Rows L2 G
local macro_rules
  | `(tactic| simp_arith [$ts,*]) => `(tactic| simp (disch := first | omega | (simp only [G.y_rowlen, List.length_map, List.length_append, List.length_replicate, List.length_range, List.length_cons, List.length_nil, G.y_flen, G.tab_length, G.itab_length, List.length_reverse, List.length_zipWith]; omega)) only [G.x_bnd, G.x_c, G.x_tof, G.x_kof, G.x_kso, G.x_nil, G.x_no, G.x_seq, G.x_kn, G.x_kr, G.x_kb, G.x_kc, G.x_nx, G.x_bk, G.x_ct, G.x_gn, G.x_gtup, G.x_glist, G.x_gsn, G.x_so, G.x_lseq, G.x_ksl, G.x_kst, G.x_kaug, G.x_par, G.x_kpar, G.x_par3, G.x_kpar3, G.x_yes, G.x_enum, G.x_kel, G.x_ket, G.x_range1, G.x_range2, G.x_add, G.x_sub, G.x_lt, G.x_le, G.x_gt, G.x_ge, G.x_eq, G.x_ne, G.x_ixl, G.x_ixt, G.x_len, G.x_lent, G.x_tupl, G.x_tupt, G.x_lstl, G.x_lstt, G.x_int, G.x_trb, G.x_tri, G.x_trt, G.x_trl, G.x_wipe, G.x_wipe0, G.x_gcd, G.x_escl, G.x_kscl, G.x_iss, G.x_ord, G.x_ordn, G.x_revl, G.x_revt, G.v_var, G.v_kvar, G.v_oS, G.v_op2, G.v_k2a, G.v_k2b, G.v_op1, G.v_k1a, G.v_tr, G.v_ktr, G.v_not, G.v_knot, G.v_tan, G.v_too, G.v_ktan1, G.v_ktan0, G.v_ktan, G.v_ktoo1, G.v_ktoo0, G.v_ktoo, G.v_an1, G.v_an0, G.v_ank, G.v_or1, G.v_or0, G.v_ork, G.v_and, G.v_or, G.v_kand, G.v_kor, G.v_ktru1, G.v_ktru0, G.v_ktru, G.v_ktro1, G.v_ktro0, G.v_ktro, G.v_av1, G.v_av0, G.v_avk, G.v_ov1, G.v_ov0, G.v_ovk, G.v_tno, G.v_ktno, G.v_if, G.v_sif, G.v_if1, G.v_if0, G.v_cons, G.v_kc1, G.v_kc2, G.v_lst, G.v_tup, G.v_klst, G.v_ktup, G.v_call, G.v_kcall, G.v_callP, G.v_kcp, G.v_ku, G.v_callS, G.v_kcs, G.v_sc, G.v_ksci, G.v_kscb, G.v_kscn, G.v_kscs, G.v_ksc, G.v_sl, G.v_ksl0, G.v_ksl1, G.v_ksl2, G.v_set, G.v_kset, G.v_ret, G.v_kret, G.v_drop, G.v_kdrop, G.v_tg, G.v_ktg, G.v_nxs, G.v_gsc, G.v_for, G.v_kfor, G.v_app, G.v_kapp1, G.v_kapp, G.v_six, G.v_kix0, G.v_kix1, G.v_kix2, G.v_stk, G.v_aug, G.v_kaug1, G.v_lc, G.v_klc, G.v_any, G.v_kany, G.v_kbo, G.v_chain, G.v_kch0, G.v_kch1, G.v_kch3, G.v_kcha2, G.v_chb1, G.v_chb0, G.v_chb, G.v_self, G.v_kself, G.v_kr1, G.v_kr2, G.v_zip, G.v_kzl, G.v_kzt, G.v_fn, G.v_kfr, G.v_kfn, G.y_addN, G.y_addR, G.y_addL, G.y_subN, G.y_subR, G.y_subL, G.y_mulN, G.y_mulR, G.y_mulL, G.y_ltN, G.y_ltR, G.y_ltL, G.y_leN, G.y_leR, G.y_leL, G.y_beq, G.y_bne, G.y_eqN, G.y_eqR, G.y_eqL, G.y_mul, G.y_div, G.y_mod, G.y_divN, G.y_divR, G.y_modN, G.y_modR, G.y_neg, G.y_sz, G.y_szl, G.y_bd, G.y_ton, G.y_ton0, G.y_tosub, G.y_tosubR, G.y_row, G.y_row0, G.y_row1, G.y_rowlen, G.y_rowL, G.y_ix, G.y_ix0, G.y_flen, G.y_rep1, G.y_repL, G.y_repC, G.y_cat, G.z_nx, G.z_ct, G.z_bk, G.z_rt, G.z_turn, G.z_kturn, G.z_wh1, G.z_wh0, G.y_fget, G.y_isi_list_none, G.y_isi_list_bool, G.y_isi_list_int, G.y_isi_list_str, G.y_isi_list_list, G.y_isi_list_tuple, G.y_isi_tuple_none, G.y_isi_tuple_bool, G.y_isi_tuple_int, G.y_isi_tuple_str, G.y_isi_tuple_list, G.y_isi_tuple_tuple, G.y_isi_int_none, G.y_isi_int_bool, G.y_isi_int_int, G.y_isi_int_str, G.y_isi_int_list, G.y_isi_int_tuple, G.y_isi_bool_none, G.y_isi_bool_bool, G.y_isi_bool_int, G.y_isi_bool_str, G.y_isi_bool_list, G.y_isi_bool_tuple, G.y_isi_str_none, G.y_isi_str_bool, G.y_isi_str_int, G.y_isi_str_str, G.y_isi_str_list, G.y_isi_str_tuple, G.y_is_none, G.y_isn_none, G.y_is_bool, G.y_isn_bool, G.y_is_int, G.y_isn_int, G.y_is_str, G.y_isn_str, G.y_is_list, G.y_isn_list, G.y_is_tuple, G.y_isn_tuple, G.y_eqb, G.y_neb, G.y_btt, G.y_btf, G.y_bft, G.y_bff, G.y_bself, G.y_iself, G.y_eqn, G.y_nen, G.y_eqnr, G.y_nenr, G.y_eqnil, G.y_nenil, G.y_slT, G.y_slD, G.y_slTt, G.y_slDt, G.y_slD1, G.y_slD1t, G.y_slM1, G.y_slM1t, G.y_addL2, G.y_addT2, G.y_max2, G.y_min2, G.y_allm, G.y_anym, G.v_kr1N, G.y_mulNN, G.z_gtt, G.tab_length, G.atI_tab, G.tab_set, G.itab_length, G.y_itab, G.itab_set, G.y_fgetL, G.y_fgetL2, G.y_max3, G.wp_some, G.wp_bnd, G.wp_k, G.bd1, G.bd0, Bool.and_self, Bool.and_true, Bool.true_and, Bool.false_and, Bool.and_false, Bool.or_false, Bool.false_or, Bool.true_or, Bool.or_true, Bool.not_true, Bool.not_false, decide_true, decide_false, not_false_eq_true, not_true_eq_false, List.getElem?_cons_zero, List.getElem?_cons_succ, List.set_cons_zero, List.set_cons_succ, List.set_nil, Option.bind_some, Option.map_some, if_true, if_false, Bool.false_eq_true, reduceIte, List.length_cons, List.length_nil, List.length_map, List.length_append, List.length_replicate, List.length_range, Nat.reduceAdd, Nat.reduceSub, Nat.reduceMul, Nat.reduceLeDiff, Nat.reduceLT, Nat.reduceDiv, Nat.reduceMod, Nat.reduceEqDiff, Int.reduceNeg, Int.reduceAdd, Int.reduceSub, Int.reduceMul, Int.reduceLT, Int.reduceLE, Int.reduceEq, Int.reduceToNat, Nat.zero_add, Nat.zero_le, Nat.not_lt_zero, Nat.add_sub_cancel, Nat.add_zero, List.map_cons, List.map_nil, List.replicate_succ, List.replicate_zero, List.cons_append, List.nil_append, List.append_nil, true_and, and_true, $ts,*])
noncomputable def m__law_table (fu : Nat) : Mir Unit := fnM 5 ((sSeq (sSet 2 (eOp2 dCat (eLst (lCons (eC (.bool true)) lNil)) (eOp2 dMul (eLst (lCons (eC (.bool false)) lNil)) (eVar 1))))
  (sSeq (sFor (lRange2 (lCons (eC (.int 1)) (lCons (eOp2 dAdd (eVar 1) (eC (.int 1))) lNil))) (gN 3)
  (sIx 2 (eVar 3) (eOp2 dNe (eLc (lSeq (eVar 0)) [4] (gN 4) (tAn (tOf (eOp2 dLe (eVar 4) (eVar 3))) (tTr (eOp2 dIx (eVar 2) (eOp2 dSub (eVar 3) (eVar 4))))) (eC (.int 1))) (eLst lNil))))
  (sRet (eVar 2)))))

noncomputable def m__law_pick (fu : Nat) : Mir DS := fnM 2 ((sRet (eOp2 dIx (eVar 1) (eCallS m_draw (lCons (eCall gLen (lCons (eVar 1) lNil)) lNil)))))

noncomputable def m__law_gcd (fu : Nat) : Mir Unit := fnM 2 ((sSeq (whI (tOf (eOp2 dGt (eVar 1) (eC (.int 0))))
  (sPar 0 1 (lCons (eVar 1) (lCons (eOp2 dMod (eCall gInt (lCons (eVar 0) lNil)) (eVar 1)) lNil))))
  (sRet (eVar 0))))

noncomputable def m__law_glued (fu : Nat) : Mir DS := fnM 13 ((sSeq (sTg (eTup (lCons (eCallP (m__law_table fu) (lCons (eVar 1) (lCons (eC (.int 60)) lNil))) (lCons (eCallP (m__law_table fu) (lCons (eVar 2) (lCons (eC (.int 60)) lNil))) lNil))) (gT 2 (gsC (gN 4) (gsC (gN 5) gsN))))
  (sSeq (sSet 7 (eLc (lRange2 (lCons (eC (.int 2)) (lCons (eC (.int 61)) lNil))) [6] (gN 6) (tAn (tTr (eOp2 dIx (eVar 4) (eVar 6))) (tOf (eOp2 dNin (eVar 6) (eVar 1)))) (eVar 6)))
  (sSeq (sSet 8 (eLc (lRange2 (lCons (eC (.int 2)) (lCons (eC (.int 61)) lNil))) [6] (gN 6) (tAn (tTr (eOp2 dIx (eVar 5) (eVar 6))) (tOf (eOp2 dNin (eVar 6) (eVar 2)))) (eVar 6)))
  (sSeq (sFor (lRange1 (lCons (eIf (tAn (tOf (eOp2 dNe (eVar 7) (eLst lNil))) (tOf (eOp2 dNe (eVar 8) (eLst lNil)))) (eC (.int 12)) (eC (.int 0))) lNil)) (gN 9)
  (sSeq (sTg (eTup (lCons (eCallS (m__law_pick fu) (lCons (eSl (eVar 8) oNo (oSo (eC (.int 12)))) lNil)) (lCons (eCallS (m__law_pick fu) (lCons (eSl (eVar 7) oNo (oSo (eC (.int 12)))) lNil)) lNil))) (gT 2 (gsC (gN 10) (gsC (gN 11) gsN))))
  (sSeq (sSet 12 (eCall gTuple (lCons (eCall gSortedW (lCons (eOp2 dAdd (eLc (lSeq (eVar 1)) [6] (gN 6) tYe (eOp2 dMul (eVar 10) (eVar 6))) (eLc (lSeq (eVar 2)) [6] (gN 6) tYe (eOp2 dMul (eVar 11) (eVar 6)))) lNil)) lNil)))
  (sIf (tAn (tOf (eOp2 dEq (eCallP (m__law_gcd fu) (lCons (eCall gMax2 (lCons (eVar 10) (lCons (eVar 11) lNil))) (lCons (eCall gMin2 (lCons (eVar 10) (lCons (eVar 11) lNil))) lNil))) (eC (.int 1)))) (tOf (eOp2 dLe (eCall gMaxG (lCons (eVar 12) lNil)) (eVar 3))))
  (sRet (eTup (lCons (eVar 12) (lCons (eVar 10) (lCons (eVar 11) lNil)))))
  sNx))))
  (sRet (eC .none)))))))

noncomputable def m__law_tree (fu : Nat) : Nat → Mir DS
  | 0 => fun _ _ => none
  | r + 1 => fnM 11 ((sSeq (sIf (tOf (eOp2 dEq (eVar 1) (eC (.int 1))))
  (sRet (eTup (lCons (eC (.int 1)) (lCons (eTup (lCons (eC (.int 1)) lNil)) lNil))))
  sNx)
  (sSeq (sSet 2 (eOp2 dAdd (eC (.int 1)) (eCallS m_draw (lCons (eOp2 dSub (eVar 1) (eC (.int 1))) lNil))))
  (sSeq (sTg (eCallS (m__law_tree fu r) (lCons (eVar 2) lNil)) (gT 2 (gsC (gN 3) (gsC (gN 4) gsN))))
  (sSeq (sTg (eCallS (m__law_tree fu r) (lCons (eOp2 dSub (eVar 1) (eVar 2)) lNil)) (gT 2 (gsC (gN 5) (gsC (gN 6) gsN))))
  (sSeq (sSet 7 (eCallS (m__law_glued fu) (lCons (eVar 4) (lCons (eVar 6) (lCons (eC (.int 200)) lNil)))))
  (sSeq (sIf (tOf (eOp2 dIs (eVar 7) (eC .none)))
  (sRet (eTup (lCons (eC (.int 1)) (lCons (eTup (lCons (eC (.int 1)) lNil)) lNil))))
  sNx)
  (sSeq (sTg (eVar 7) (gT 3 (gsC (gN 8) (gsC (gN 9) (gsC (gN 10) gsN)))))
  (sRet (eTup (lCons (eTup (lCons (eVar 9) (lCons (eVar 10) (lCons (eVar 3) (lCons (eVar 5) lNil))))) (lCons (eVar 8) lNil))))))))))))

noncomputable def m__law_gaps (fu : Nat) : Mir Unit := fnM 4 ((sSeq (sSet 1 (eOp2 dMul (eOp2 dIx (eVar 0) (eC (.int 0))) (eOp2 dIx (eVar 0) (eOp1 dNeg (eC (.int 1))))))
  (sSeq (sSet 2 (eCallP (m__law_table fu) (lCons (eVar 0) (lCons (eVar 1) lNil))))
  (sRet (eLc (lRange2 (lCons (eC (.int 1)) (lCons (eOp2 dAdd (eVar 1) (eC (.int 1))) lNil))) [3] (gN 3) (tNo (tTr (eOp2 dIx (eVar 2) (eVar 3)))) (eVar 3))))))

noncomputable def m__law_common (fu : Nat) : Mir Unit := fnM 3 ((sSeq (sSet 1 (eC (.int 0)))
  (sSeq (sFor (lSeq (eVar 0)) (gN 2)
  (sSet 1 (eCallP (m__law_gcd fu) (lCons (eVar 1) (lCons (eVar 2) lNil)))))
  (sRet (eVar 1)))))

noncomputable def m__law_least (fu : Nat) : Mir Unit := fnM 3 ((sSeq (sSet 1 (eTup lNil))
  (sSeq (sFor (lSeq (eOp1 gSortSet (eVar 0))) (gN 2)
  (sIf (tNo (tTr (eOp2 dIx (eCallP (m__law_table fu) (lCons (eVar 1) (lCons (eVar 2) lNil))) (eVar 2))))
  (sSet 1 (eOp2 dAdd (eVar 1) (eTup (lCons (eVar 2) lNil))))
  sNx))
  (sRet (eVar 1)))))

noncomputable def m__law_semigroup (fu : Nat) : Mir DS := fnM 8 ((sSeq (sSet 4 (eLc (lRange1 (lCons (eOp2 dAdd (eC (.int 2)) (eCallS m_draw (lCons (eOp2 dSub (eVar 2) (eC (.int 1))) lNil))) lNil)) [3] (gN 3) tYe (eOp2 dAdd (eC (.int 2)) (eCallS m_draw (lCons (eOp2 dSub (eVar 1) (eC (.int 1))) lNil)))))
  (sSeq (sSet 5 (eCallP (m__law_common fu) (lCons (eVar 4) lNil)))
  (sSeq (sSet 4 (eCallP (m__law_least fu) (lCons (eLc (lSeq (eVar 4)) [6] (gN 6) tYe (eOp2 dDiv (eVar 6) (eVar 5))) lNil)))
  (sSeq (sIf (tOf (eOp2 dLt (eCall gLen (lCons (eVar 4) lNil)) (eC (.int 2))))
  (sSeq (sSet 7 (eOp2 dAdd (eC (.int 2)) (eCallS m_draw (lCons (eOp2 dSub (eVar 1) (eC (.int 2))) lNil))))
  (sSet 4 (eTup (lCons (eVar 7) (lCons (eOp2 dAdd (eVar 7) (eC (.int 1))) lNil)))))
  sNx)
  (sRet (eVar 4)))))))

noncomputable def m__law_eq (fu : Nat) : Nat → Mir Unit
  | 0 => fun _ _ => none
  | r + 1 => fnM 3 ((sSeq (sIf (tOo (tTr (eOp1 (gIsi "list") (eVar 1))) (tTr (eOp1 (gIsi "tuple") (eVar 1))))
  (sSeq (sIf (tOo (tOf (eOp2 dNe (eOp1 (gIsi "list") (eVar 0)) (eOp1 (gIsi "list") (eVar 1)))) (tOf (eOp2 dNe (eOp1 (gIsi "tuple") (eVar 0)) (eOp1 (gIsi "tuple") (eVar 1)))))
  (sRet (eC (.bool false)))
  sNx)
  (sSeq (sIf (tOf (eOp2 dNe (eCall gLen (lCons (eVar 0) lNil)) (eCall gLen (lCons (eVar 1) lNil))))
  (sRet (eC (.bool false)))
  sNx)
  (sRet (eOp2 dEq (eLc (lRange1 (lCons (eCall gLen (lCons (eVar 1) lNil)) lNil)) [2] (gN 2) (tNo (tTr (eCallP (m__law_eq fu r) (lCons (eOp2 dIx (eVar 0) (eVar 2)) (lCons (eOp2 dIx (eVar 1) (eVar 2)) lNil))))) (eVar 2)) (eLst lNil)))))
  sNx)
  (sSeq (sIf (tOf (eOp2 dIs (eVar 1) (eC .none)))
  (sRet (eOp2 dIs (eVar 0) (eC .none)))
  sNx)
  (sSeq (sIf (tTr (eOp1 (gIsi "str") (eVar 1)))
  (sRet (eAnd (eOp1 (gIsi "str") (eVar 0)) (eOp2 dEq (eVar 0) (eVar 1))))
  sNx)
  (sSeq (sIf (tTr (eOp1 (gIsi "bool") (eVar 1)))
  (sRet (eAnd (eOp1 (gIsi "bool") (eVar 0)) (eOp2 dEq (eVar 0) (eVar 1))))
  sNx)
  (sRet (eAnd (eOp1 (gIsi "int") (eVar 0)) (eAnd (eNot (eOp1 (gIsi "bool") (eVar 0))) (eOp2 dEq (eVar 0) (eVar 1))))))))))

noncomputable def m_gap_of_tree (fu : Nat) : Nat → Mir Unit
  | 0 => fun _ _ => none
  | r + 1 => fnM 5 ((sSeq (sIf (tOf (eOp2 dEq (eVar 0) (eC (.int 1))))
  (sRet (eOp1 dNeg (eC (.int 1))))
  sNx)
  (sSeq (sTg (eVar 0) (gT 4 (gsC (gN 1) (gsC (gN 2) (gsC (gN 3) (gsC (gN 4) gsN))))))
  (sRet (eOp2 dAdd (eOp2 dAdd (eOp2 dMul (eVar 1) (eCallP (m_gap_of_tree fu r) (lCons (eVar 3) lNil))) (eOp2 dMul (eVar 2) (eCallP (m_gap_of_tree fu r) (lCons (eVar 4) lNil)))) (eOp2 dMul (eVar 1) (eVar 2)))))))

noncomputable def m_genus_of_tree (fu : Nat) : Nat → Mir Unit
  | 0 => fun _ _ => none
  | r + 1 => fnM 5 ((sSeq (sIf (tOf (eOp2 dEq (eVar 0) (eC (.int 1))))
  (sRet (eC (.int 0)))
  sNx)
  (sSeq (sTg (eVar 0) (gT 4 (gsC (gN 1) (gsC (gN 2) (gsC (gN 3) (gsC (gN 4) gsN))))))
  (sRet (eOp2 dAdd (eOp2 dAdd (eOp2 dMul (eVar 1) (eCallP (m_genus_of_tree fu r) (lCons (eVar 3) lNil))) (eOp2 dMul (eVar 2) (eCallP (m_genus_of_tree fu r) (lCons (eVar 4) lNil)))) (eOp2 dDiv (eOp2 dMul (eOp2 dSub (eVar 1) (eC (.int 1))) (eOp2 dSub (eVar 2) (eC (.int 1)))) (eC (.int 2))))))))

noncomputable def m_common (fu : Nat) : Mir Unit := fnM 3 ((sSeq (sSet 1 (eC (.int 0)))
  (sSeq (sFor (lSeq (eVar 0)) (gN 2)
  (sSet 1 (eCall gGcd (lCons (eVar 1) (lCons (eVar 2) lNil)))))
  (sRet (eVar 1)))))

noncomputable def m_table_of (fu : Nat) : Mir Unit := fnM 5 ((sSeq (sSet 2 (eOp2 dRep (eLst (lCons (eC (.bool false)) lNil)) (eOp2 dAdd (eVar 1) (eC (.int 1)))))
  (sSeq (sIx 2 (eC (.int 0)) (eC (.bool true)))
  (sSeq (sFor (lRange2 (lCons (eC (.int 1)) (lCons (eOp2 dAdd (eVar 1) (eC (.int 1))) lNil))) (gN 3)
  (sIx 2 (eVar 3) (eCall gAny (lCons (eLc (lSeq (eVar 0)) [4] (gN 4) tYe (eAnd (eOp2 dGe (eVar 3) (eVar 4)) (eOp2 dIx (eVar 2) (eOp2 dSub (eVar 3) (eVar 4))))) lNil))))
  (sRet (eVar 2))))))

noncomputable def m_is_sum (fu : Nat) : Mir Unit := fnM 2 ((sRet (eOp2 dIx (eCallP (m_table_of fu) (lCons (eVar 0) (lCons (eVar 1) lNil))) (eVar 1))))

noncomputable def m_is_gluing (fu : Nat) : Mir Unit := fnM 5 ((sSeq (sIf (tOo (tOf (eOp2 dEq (eCall gLen (lCons (eVar 1) lNil)) (eC (.int 0)))) (tOo (tOf (eOp2 dEq (eCall gLen (lCons (eVar 2) lNil)) (eC (.int 0)))) (tOo (tOf (eOp2 dNe (eCall gList (lCons (eVar 1) lNil)) (eCall gSortedW (lCons (eVar 1) lNil)))) (tOf (eOp2 dNe (eCall gList (lCons (eVar 2) lNil)) (eCall gSortedW (lCons (eVar 2) lNil)))))))
  (sRet (eC (.bool false)))
  sNx)
  (sSeq (sIf (tOo (tOf (eOp2 dNe (eCall gSortedW (lCons (eOp2 dAdd (eVar 1) (eVar 2)) lNil)) (eCall gList (lCons (eVar 0) lNil)))) (tOf (eOp2 dNe (eOp2 dIx (eVar 1) (eC (.int 0))) (eOp2 dIx (eVar 0) (eC (.int 0))))))
  (sRet (eC (.bool false)))
  sNx)
  (sSeq (sPar 3 4 (lCons (eCallP (m_common fu) (lCons (eVar 1) lNil)) (lCons (eCallP (m_common fu) (lCons (eVar 2) lNil)) lNil)))
  (sRet (eAnd (eOp2 dGt (eCall gMin2 (lCons (eVar 3) (lCons (eVar 4) lNil))) (eC (.int 1))) (eAnd (eOp2 dEq (eCall gGcd (lCons (eVar 3) (lCons (eVar 4) lNil))) (eC (.int 1))) (eAnd (eCallP (m_is_sum fu) (lCons (eVar 1) (lCons (eOp2 dMul (eVar 3) (eVar 4)) lNil))) (eCallP (m_is_sum fu) (lCons (eVar 2) (lCons (eOp2 dMul (eVar 3) (eVar 4)) lNil)))))))))))

noncomputable def m_glue (fu : Nat) : Mir Unit := fnM 5 ((sRet (eCall gTuple (lCons (eCall gSortedW (lCons (eOp2 dAdd (eLc (lSeq (eVar 0)) [4] (gN 4) tYe (eOp2 dMul (eVar 2) (eVar 4))) (eLc (lSeq (eVar 1)) [4] (gN 4) tYe (eOp2 dMul (eVar 3) (eVar 4)))) lNil)) lNil))))

noncomputable def m_least_place (fu : Nat) : Mir Unit := fnM 5 ((sSeq (sSet 2 (eC .none))
  (sSeq (sFor (lEnum (lCons (eVar 0) lNil)) (gT 2 (gsC (gN 3) (gsC (gN 4) gsN)))
  (sIf (tAn (tOf (eOp2 dIsn (eVar 4) (eC .none))) (tAn (tNo (tTr (eOp2 dIx (eVar 1) (eVar 3)))) (tOo (tOf (eOp2 dIs (eVar 2) (eC .none))) (tOf (eOp2 dLt (eVar 4) (eOp2 dIx (eVar 0) (eVar 2)))))))
  (sSet 2 (eVar 3))
  sNx))
  (sRet (eVar 2)))))

noncomputable def m_remainders (fu : Nat) : Mir Unit := fnM 7 ((sSeq (sSet 2 (eOp2 dRep (eLst (lCons (eC .none) lNil)) (eVar 1)))
  (sSeq (sIx 2 (eC (.int 0)) (eC (.int 0)))
  (sSeq (sSet 3 (eOp2 dRep (eLst (lCons (eC (.bool false)) lNil)) (eVar 1)))
  (sSeq (sSet 4 (eC (.int 0)))
  (sSeq (whI (tOf (eOp2 dIsn (eVar 4) (eC .none)))
  (sSeq (sIx 3 (eVar 4) (eC (.bool true)))
  (sSeq (sFor (lSeq (eVar 0)) (gN 5)
  (sSeq (sSet 6 (eOp2 dMod (eOp2 dAdd (eVar 4) (eVar 5)) (eVar 1)))
  (sIf (tOo (tOf (eOp2 dIs (eOp2 dIx (eVar 2) (eVar 6)) (eC .none))) (tOf (eOp2 dLt (eOp2 dAdd (eOp2 dIx (eVar 2) (eVar 4)) (eVar 5)) (eOp2 dIx (eVar 2) (eVar 6)))))
  (sIx 2 (eVar 6) (eOp2 dAdd (eOp2 dIx (eVar 2) (eVar 4)) (eVar 5)))
  sNx)))
  (sSet 4 (eSc (eSc (eCallP (m_least_place fu) (lCons (eVar 2) (lCons (eVar 3) lNil)))))))))
  (sRet (eVar 2))))))))

noncomputable def m_greatest_gap (fu : Nat) : Mir Unit := fnM 2 ((sSeq (sSet 1 (eOp2 dIx (eVar 0) (eC (.int 0))))
  (sRet (eOp2 dSub (eCall gMaxG (lCons (eCallP (m_remainders fu) (lCons (eVar 0) (lCons (eVar 1) lNil))) lNil)) (eVar 1)))))

noncomputable def m_genus (fu : Nat) : Mir Unit := fnM 3 ((sSeq (sSet 1 (eOp2 dIx (eVar 0) (eC (.int 0))))
  (sRet (eCall gSum (lCons (eLc (lSeq (eCallP (m_remainders fu) (lCons (eVar 0) (lCons (eVar 1) lNil)))) [2] (gN 2) tYe (eOp2 dDiv (eVar 2) (eVar 1))) lNil)))))

noncomputable def b_law (fu : Nat) : SM DS :=
  (sSeq (sFor (lRange1 (lCons (eC (.int 2)) lNil)) (gN 2)
  (sSeq (sPar 3 4 (lCons (eCallS (m__law_semigroup fu) (lCons (eC (.int 9)) (lCons (eC (.int 3)) lNil))) (lCons (eCallS (m__law_pick fu) (lCons (eLst (lCons (eTup (lCons (eC (.int 1)) lNil)) (lCons (eCallS (m__law_semigroup fu) (lCons (eC (.int 9)) (lCons (eC (.int 3)) lNil))) lNil))) lNil)) lNil)))
  (sSeq (sSet 5 (eCallS (m__law_glued fu) (lCons (eVar 3) (lCons (eVar 4) (lCons (eC (.int 120)) lNil)))))
  (sIf (tAn (tOf (eOp2 dIsn (eVar 5) (eC .none))) (tOf (eOp2 dLe (eCall gLen (lCons (eOp2 dIx (eVar 5) (eC (.int 0))) lNil)) (eC (.int 8)))))
  (sSeq (sTg (eVar 5) (gT 3 (gsC (gN 6) (gsC (gN 7) (gsC (gN 8) gsN)))))
  (sSeq (sPar3 9 10 11 (lCons (eCallP (m__law_gaps fu) (lCons (eVar 6) lNil)) (lCons (eCallP (m__law_gaps fu) (lCons (eVar 3) lNil)) (lCons (eIf (tOf (eOp2 dNe (eVar 4) (eTup (lCons (eC (.int 1)) lNil)))) (eCallP (m__law_gaps fu) (lCons (eVar 4) lNil)) (eLst lNil)) lNil))))
  (sSeq (sSet 12 (eCall gMaxG (lCons (eVar 9) lNil)))
  (sSeq (sIf (tOf (eOp2 dNe (eVar 12) (eOp2 dAdd (eOp2 dAdd (eOp2 dMul (eVar 7) (eCall gMaxG (lCons (eVar 10) lNil))) (eOp2 dMul (eVar 8) (eIf (tOf (eOp2 dNe (eVar 11) (eLst lNil))) (eCall gMaxG (lCons (eVar 11) lNil)) (eOp1 dNeg (eC (.int 1)))))) (eOp2 dMul (eVar 7) (eVar 8)))))
  (sRet (eC (.bool false)))
  sNx)
  (sSeq (sIf (tOf (eOp2 dNe (eCall gLen (lCons (eVar 9) lNil)) (eOp2 dAdd (eOp2 dAdd (eOp2 dMul (eVar 7) (eCall gLen (lCons (eVar 10) lNil))) (eOp2 dMul (eVar 8) (eCall gLen (lCons (eVar 11) lNil)))) (eOp2 dDiv (eOp2 dMul (eOp2 dSub (eVar 7) (eC (.int 1))) (eOp2 dSub (eVar 8) (eC (.int 1)))) (eC (.int 2))))))
  (sRet (eC (.bool false)))
  sNx)
  (sSeq (sIf (tOo (tNo (tTr (eCallP (m__law_eq fu 12) (lCons (eCallP (m_glue fu) (lCons (eVar 3) (lCons (eVar 4) (lCons (eVar 7) (lCons (eVar 8) lNil))))) (lCons (eVar 6) lNil))))) (tOo (tNo (tTr (eCallP (m__law_eq fu 12) (lCons (eCallP (m_greatest_gap fu) (lCons (eVar 6) lNil)) (lCons (eVar 12) lNil))))) (tNo (tTr (eCallP (m__law_eq fu 12) (lCons (eCallP (m_genus fu) (lCons (eVar 6) lNil)) (lCons (eCall gLen (lCons (eVar 9) lNil)) lNil)))))))
  (sRet (eC (.bool false)))
  sNx)
  (sSeq (sSet 14 (eTup (lCons (eCall gTuple (lCons (eLc (lSeq (eVar 3)) [13] (gN 13) tYe (eOp2 dMul (eVar 7) (eVar 13))) lNil)) (lCons (eCall gTuple (lCons (eLc (lSeq (eVar 4)) [13] (gN 13) tYe (eOp2 dMul (eVar 8) (eVar 13))) lNil)) lNil))))
  (sSeq (sSet 14 (eIf (tOf (eOp2 dEq (eOp2 dIx (eOp2 dIx (eVar 14) (eC (.int 0))) (eC (.int 0))) (eOp2 dIx (eVar 6) (eC (.int 0))))) (eVar 14) (eOp1 dRevA (eVar 14))))
  (sIf (tNo (tTr (eCallP (m__law_eq fu 12) (lCons (eCallP (m_is_gluing fu) (lCons (eVar 6) (lCons (eOp2 dIx (eVar 14) (eC (.int 0))) (lCons (eOp2 dIx (eVar 14) (eC (.int 1))) lNil)))) (lCons (eC (.bool true)) lNil)))))
  (sRet (eC (.bool false)))
  sNx)))))))))
  sNx))))
  (sSeq (sTg (eCallS (m__law_tree fu 12) (lCons (eOp2 dAdd (eC (.int 1)) (eCallS m_draw (lCons (eC (.int 6)) lNil))) lNil)) (gT 2 (gsC (gN 15) (gsC (gN 6) gsN))))
  (sSeq (sSet 9 (eIf (tOf (eOp2 dNe (eVar 6) (eTup (lCons (eC (.int 1)) lNil)))) (eCallP (m__law_gaps fu) (lCons (eVar 6) lNil)) (eLst lNil)))
  (sSeq (sIf (tOo (tNo (tTr (eCallP (m__law_eq fu 12) (lCons (eCallP (m_gap_of_tree fu 12) (lCons (eVar 15) lNil)) (lCons (eIf (tOf (eOp2 dNe (eVar 9) (eLst lNil))) (eCall gMaxG (lCons (eVar 9) lNil)) (eOp1 dNeg (eC (.int 1)))) lNil))))) (tNo (tTr (eCallP (m__law_eq fu 12) (lCons (eCallP (m_genus_of_tree fu 12) (lCons (eVar 15) lNil)) (lCons (eCall gLen (lCons (eVar 9) lNil)) lNil))))))
  (sRet (eC (.bool false)))
  sNx)
  (sRet (eOr (eOp2 dEq (eVar 9) (eLst lNil)) (eOp2 dEq (eOp2 dMul (eC (.int 2)) (eCall gLen (lCons (eVar 9) lNil))) (eOp2 dAdd (eCall gMaxG (lCons (eVar 9) lNil)) (eC (.int 1))))))))))
/-! new laws: _law_eq, _law_pick -/
def fuel : Nat := 1
/-- data of a bounded depth -/
inductive Kd : Nat → D → Prop
  | none (n : Nat) : Kd n .none
  | bool (n : Nat) (b : Bool) : Kd n (.bool b)
  | int (n : Nat) (i : Int) : Kd n (.int i)
  | list {n : Nat} {xs : List D} (h : ∀ x ∈ xs, Kd n x) (hl : xs.length ≤ 1000000) : Kd (n + 1) (.list xs)
  | tuple {n : Nat} {xs : List D} (h : ∀ x ∈ xs, Kd n x) (hl : xs.length ≤ 1000000) : Kd (n + 1) (.tuple xs)
theorem atI_mem {xs : List D} {i : Nat} (h : i < xs.length) : ∃ d ∈ xs, atI xs (i : Int) = some d :=
  ⟨xs[i], List.getElem_mem h, by rw [atI_lt h, List.getElem?_eq_getElem h]⟩
theorem e_eq (fu : Nat) : ∀ {n : Nat} {d : D}, Kd n d → ∀ r, n < r → m__law_eq fu r [some d, some d] () = some (.bool true, ()) := by
  intro n
  induction n with
  | zero =>
    intro d h r hr
    obtain ⟨r, rfl⟩ : ∃ k, r = k + 1 := ⟨r - 1, by omega⟩
    refine wp_eqU ?_
    unfold m__law_eq
    cases h with
    | none => simp_arith []
    | bool b => simp_arith []
    | int i => simp_arith []
  | succ n ih =>
    intro d h r hr
    obtain ⟨r, rfl⟩ : ∃ k, r = k + 1 := ⟨r - 1, by omega⟩
    refine wp_eqU ?_
    unfold m__law_eq
    cases h with
    | none => simp_arith []
    | bool b => simp_arith []
    | int i => simp_arith []
    | @list _ xs h hl =>
      simp_arith []
      rw [rangeD_map0]
      refine wp_lc (fun _ => false) (fun i => .int (i : Int)) (fun i hi => ⟨?_, fun z => by cases z⟩) ?_
      · obtain ⟨d, hd, e⟩ := atI_mem (List.mem_range.mp hi)
        have := ih (h d hd) r (by omega)
        simp_arith [e, this]
      · rw [List.filter_eq_nil_iff.mpr (by simp)]
        simp_arith []
    | @tuple _ xs h hl =>
      simp_arith []
      rw [rangeD_map0]
      refine wp_lc (fun _ => false) (fun i => .int (i : Int)) (fun i hi => ⟨?_, fun z => by cases z⟩) ?_
      · obtain ⟨d, hd, e⟩ := atI_mem (List.mem_range.mp hi)
        have := ih (h d hd) r (by omega)
        simp_arith [e, this]
      · rw [List.filter_eq_nil_iff.mpr (by simp)]
        simp_arith []
theorem wp_pick {fu : Nat} {xs : List D} {s : DS} {Q : D → DS → Prop} (h : Ok2 s) (hx : 0 < xs.length) (hl : xs.length ≤ 1000000000000) (hq : ∀ d ∈ xs, ∀ s', Ok2 s' → Q d s') : Wp (m__law_pick fu [none, some (.list xs)] s) Q := by
  unfold m__law_pick
  simp_arith []
  refine wp_draw h hx (by omega) fun v s' hv hs' => ?_
  obtain ⟨d, hd, e⟩ := atI_mem hv
  simp_arith [e]
  exact hq d hd s' hs'
/-! gcd of the new laws -/
theorem e_gcdB (fu a b : Nat) : m__law_gcd fu [some (.int (a : Int)), some (.int (b : Int))] () = some (.int ((Nat.gcd a b : Nat) : Int), ()) := by
  refine wp_eqU ?_
  unfold m__law_gcd
  simp_arith []
  refine wp_wh (n := b) (fun n ρ _ => ∃ x : Nat, ρ = [some (.int (x : Int)), some (.int (n : Int))] ∧ Nat.gcd x n = Nat.gcd a b) ⟨a, rfl, rfl⟩ ?_
  rintro n _ _ ⟨x, rfl, h⟩
  simp_arith []
  refine wh_ifp (fun hn => ?_) (fun hn => ?_)
  · simp_arith []
    exact ⟨x % n, Nat.mod_lt _ hn, n, rfl, by rw [← h, Nat.gcd_comm n, ← Nat.gcd_rec, Nat.gcd_comm]⟩
  · simp_arith []
    rw [← h, show n = 0 by omega, Nat.gcd_zero_right]
theorem _root_.List.Pairwise.nodup' {l : List Nat} (h : l.Pairwise (· < ·)) : l.Nodup := h.imp fun h e => by omega
theorem setlen : ∀ (ys xs : List Nat), ys.Nodup → (∀ z ∈ ys, z ∈ xs) → ys.length ≤ xs.length
  | [], _, _, _ => Nat.zero_le _
  | y :: ys, xs, h, hs => by
    obtain ⟨h1, h2⟩ := List.nodup_cons.mp h
    have hy := hs y List.mem_cons_self
    have := setlen ys (xs.erase y) h2 fun z hz => (List.mem_erase_of_ne (fun e => h1 (by rw [← e]; exact hz))).mpr (hs z (List.mem_cons_of_mem _ hz))
    rw [List.length_erase_of_mem hy] at this
    have := List.length_pos_of_mem hy
    simp only [List.length_cons]
    omega
/-! comprehensions over rows of numbers and over ranges -/
theorem lc_row {S : Type} {v : Nat} {tt : TM S} {te : EM S} {ρ : Slots} {s : S} {row : List Nat} (p : Nat → Bool) (g : Nat → D) (h : ∀ a ∈ row, tt (ρ.set v (some (.int (a : Int)))) s = some (p a, s) ∧ (p a = true → te (ρ.set v (some (.int (a : Int)))) s = some (g a, s))) :
    lcGo (gN v) tt te ρ (rowD row) s = some ((row.filter p).map g, s) :=
  lcGo_map _ p g fun a ha => ⟨_, rfl, h a ha⟩
theorem lc_rowA {S : Type} {v : Nat} {te : EM S} {ρ : Slots} {s : S} {row : List Nat} (g : Nat → D) (h : ∀ a ∈ row, te (ρ.set v (some (.int (a : Int)))) s = some (g a, s)) :
    lcGo (gN v) tYe te ρ (rowD row) s = some (row.map g, s) :=
  lcGo_all _ g fun a ha => ⟨_, rfl, h a ha⟩
theorem lc_rng {S : Type} {v : Nat} {tt : TM S} {te : EM S} {ρ : Slots} {s : S} {n : Nat} (p : Nat → Bool) (g : Nat → D) (h : ∀ a, a < n → tt (ρ.set v (some (.int (a : Int)))) s = some (p a, s) ∧ (p a = true → te (ρ.set v (some (.int (a : Int)))) s = some (g a, s))) :
    lcGo (gN v) tt te ρ (rangeD 0 n) s = some (((List.range n).filter p).map g, s) :=
  lcGo_range p g fun a ha => ⟨_, rfl, h a ha⟩
theorem rangeD0 (n : Nat) : rangeD 0 n = rowD (List.range n) := by
  unfold rangeD rowD
  exact List.map_congr_left fun x _ => by rw [Int.zero_add]
theorem lc_rngA {S : Type} {v : Nat} {te : EM S} {ρ : Slots} {s : S} {n : Nat} (g : Nat → D) (h : ∀ a, a < n → te (ρ.set v (some (.int (a : Int)))) s = some (g a, s)) :
    lcGo (gN v) tYe te ρ (rangeD 0 n) s = some ((List.range n).map g, s) := by
  rw [rangeD0]
  exact lc_rowA g fun a ha => h a (List.mem_range.mp ha)
theorem rowD_len (row : List Nat) : (rowD row).length = row.length := by unfold rowD; rw [List.length_map]
/-- any, all over a row -/
theorem any_row {S : Type} {k : Bool} {tg : GM} {te : EM S} {ρ : Slots} {s : S} {α : Type} {row : List α} (f : α → D) (p : α → Bool) (h : ∀ a ∈ row, ∃ ρ1, tg (f a) ρ = some ρ1 ∧ te ρ1 s = some (.bool (p a), s)) :
    anyGo k tg tYe te ρ (row.map f) s = some (if k = true then row.any p else row.all p, s) := by
  induction row with
  | nil => cases k <;> rfl
  | cons a r ih =>
    obtain ⟨ρ1, e1, e2⟩ := h a List.mem_cons_self
    have ih := ih fun b hb => h b (List.mem_cons_of_mem _ hb)
    rw [List.map_cons]
    unfold anyGo
    rw [e1, Option.bind_some]
    show bnd (some (true, s)) _ = _
    rw [bnd_mk, if_pos rfl, e2, bnd_mk]
    cases k <;> cases hp : p a <;> simp [hp, ih]
/-! draws in comprehensions -/
theorem lcGo_ex {S : Type} {tg : GM} {te : EM S} {ρ : Slots} (I : S → Prop) (P : D → Prop) : ∀ {ds : List D}, (∀ d ∈ ds, ∀ s, I s → ∃ ρ1, tg d ρ = some ρ1 ∧ ∃ y s', te ρ1 s = some (y, s') ∧ P y ∧ I s') →
    ∀ s, I s → ∃ ys s', lcGo tg tYe te ρ ds s = some (ys, s') ∧ I s' ∧ ys.length = ds.length ∧ ∀ y ∈ ys, P y
  | [], _, s, hs => ⟨[], s, rfl, hs, rfl, fun y hy => by cases hy⟩
  | d :: ds, h, s, hs => by
    obtain ⟨ρ1, e1, y, s1, e2, py, i1⟩ := h d List.mem_cons_self s hs
    obtain ⟨ys, s2, e3, i2, hl, hp⟩ := lcGo_ex I P (fun d hd => h d (List.mem_cons_of_mem _ hd)) s1 i1
    refine ⟨y :: ys, s2, ?_, i2, by rw [List.length_cons, List.length_cons, hl], fun z hz => ?_⟩
    · unfold lcGo
      rw [e1, Option.bind_some]
      show bnd (some (true, s)) _ = _
      rw [bnd_mk, if_pos rfl, e2, bnd_mk, e3, bnd_mk]
    · rcases List.mem_cons.mp hz with e | e
      · rw [e]; exact py
      · exact hp z e
theorem nats_of {p : Nat → Prop} : ∀ {ys : List D}, (∀ y ∈ ys, ∃ a : Nat, y = .int (a : Int) ∧ p a) → ∃ row : List Nat, ys = rowD row ∧ ∀ a ∈ row, p a
  | [], _ => ⟨[], rfl, fun a h => by cases h⟩
  | y :: ys, h => by
    obtain ⟨a, rfl, pa⟩ := h y List.mem_cons_self
    obtain ⟨row, rfl, hp⟩ := nats_of fun z hz => h z (List.mem_cons_of_mem _ hz)
    exact ⟨a :: row, rfl, fun b hb => (List.mem_cons.mp hb).elim (fun e => by rw [e]; exact pa) (hp b)⟩
theorem ints_of {p : Int → Prop} : ∀ {ys : List D}, (∀ y ∈ ys, ∃ a : Int, y = .int a ∧ p a) → ∃ row : List Int, ys = row.map PyData.int ∧ ∀ a ∈ row, p a
  | [], _ => ⟨[], rfl, fun a h => by cases h⟩
  | y :: ys, h => by
    obtain ⟨a, rfl, pa⟩ := h y List.mem_cons_self
    obtain ⟨row, rfl, hp⟩ := ints_of fun z hz => h z (List.mem_cons_of_mem _ hz)
    exact ⟨a :: row, rfl, fun b hb => (List.mem_cons.mp hb).elim (fun e => by rw [e]; exact pa) (hp b)⟩
theorem draw_nat {s : DS} {n : Int} (h : Ok s) (hn : 0 < n) (hz : n.natAbs.log2 < 9000) : ∃ (v : Nat) (s' : DS), m_draw [none, some (.int n)] s = some (.int (v : Int), s') ∧ (v : Int) < n ∧ Ok s' := by
  obtain ⟨v, s', e, h1, h2, o⟩ := draw_ok h hn hz
  obtain ⟨k, rfl⟩ := Int.eq_ofNat_of_zero_le h1
  exact ⟨k, s', e, h2, o⟩
theorem shaped_row (row : List Nat) : SeqAt.shaped (.list (rowD row)) = true := shaped_nats row
theorem shaped_rowT (row : List Nat) : SeqAt.shaped (.tuple (rowD row)) = true := by
  have := shaped_nats row
  exact this
theorem rowD_ints (row : List Nat) : rowD row = (row.map fun a : Nat => (a : Int)).map PyData.int := by
  unfold rowD
  rw [List.map_map]
  rfl
/-- sorted, downwards -/
theorem sorted_down (row : List Nat) : ∃ row' : List Nat, gSorted [.list (rowD row)] = some (.list (rowD row'.reverse)) ∧ row'.Pairwise (fun a b => b ≤ a) ∧ (∀ a, a ∈ row' ↔ a ∈ row) ∧ row'.length = row.length := by
  have hp := sortI_perm (row.map fun a : Nat => (a : Int))
  have hs := sortI_sorted (row.map fun a : Nat => (a : Int))
  have hall : ∀ z ∈ sortI (row.map fun a : Nat => (a : Int)), ∃ a : Nat, z = (a : Int) := fun z hz => by
    obtain ⟨a, _, e⟩ := List.mem_map.mp (hp.mem_iff.mp hz)
    exact ⟨a, e.symm⟩
  have : ∃ l : List Nat, sortI (row.map fun a : Nat => (a : Int)) = l.map fun a : Nat => (a : Int) := by
    generalize sortI (row.map fun a : Nat => (a : Int)) = zs at hall
    induction zs with
    | nil => exact ⟨[], rfl⟩
    | cons z zs ih =>
      obtain ⟨a, rfl⟩ := hall z List.mem_cons_self
      obtain ⟨l, e⟩ := ih fun w hw => hall w (List.mem_cons_of_mem _ hw)
      exact ⟨a :: l, by rw [e]; rfl⟩
  obtain ⟨l, e⟩ := this
  refine ⟨l.reverse, ?_, ?_, fun a => ?_, ?_⟩
  · show (ints? (rowD row)).bind _ = _
    rw [rowD_ints, ints?_map, Option.bind_some, e, List.reverse_reverse, rowD_ints]
  · rw [List.pairwise_reverse]
    rw [e] at hs
    exact (List.pairwise_map.mp hs).imp fun h => by omega
  · rw [List.mem_reverse]
    rw [e] at hp
    have h1 := hp.mem_iff (a := (a : Int))
    rw [List.mem_map, List.mem_map] at h1
    constructor
    · intro h
      obtain ⟨b, hb, e⟩ := h1.mp ⟨a, h, rfl⟩
      have : b = a := by omega
      rw [← this]; exact hb
    · intro h
      obtain ⟨b, hb, e⟩ := h1.mpr ⟨a, h, rfl⟩
      have : b = a := by omega
      rw [← this]; exact hb
  · have := hp.length_eq
    rw [e] at this
    simpa using this
/-- sorted(set(..)), downwards -/
theorem sortset_down (row : List Nat) (h : row.length ≤ 4000) : ∃ row' : List Nat, gSortSet (.list (rowD row)) = some (.list (rowD row'.reverse)) ∧ row'.Pairwise (fun a b => b < a) ∧ (∀ a, a ∈ row' ↔ a ∈ row) ∧ row'.length ≤ row.length := by
  have hs := sortU_asc (row.map fun a : Nat => (a : Int))
  have hm := fun z => @sortU_mem z (row.map fun a : Nat => (a : Int))
  have hl := @sortU_len (row.map fun a : Nat => (a : Int))
  rw [List.length_map] at hl
  have hall : ∀ z ∈ sortU (row.map fun a : Nat => (a : Int)), ∃ a : Nat, z = (a : Int) := fun z hz => by
    obtain ⟨a, _, e⟩ := List.mem_map.mp ((hm z).mp hz)
    exact ⟨a, e.symm⟩
  have : ∃ l : List Nat, sortU (row.map fun a : Nat => (a : Int)) = l.map fun a : Nat => (a : Int) := by
    generalize sortU (row.map fun a : Nat => (a : Int)) = zs at hall
    induction zs with
    | nil => exact ⟨[], rfl⟩
    | cons z zs ih =>
      obtain ⟨a, rfl⟩ := hall z List.mem_cons_self
      obtain ⟨l, e⟩ := ih fun w hw => hall w (List.mem_cons_of_mem _ hw)
      exact ⟨a :: l, by rw [e]; rfl⟩
  obtain ⟨l, e⟩ := this
  rw [e] at hs hl hm
  rw [List.length_map] at hl
  refine ⟨l.reverse, ?_, ?_, fun a => ?_, by rw [List.length_reverse]; exact hl⟩
  · show (ints? (rowD row)).bind _ = _
    rw [rowD_ints, ints?_map, Option.bind_some, e, if_pos (by rw [List.length_map]; omega), List.reverse_reverse, rowD_ints]
  · rw [List.pairwise_reverse]
    exact (List.pairwise_map.mp hs).imp fun h => by omega
  · rw [List.mem_reverse]
    have h1 := hm (a : Int)
    rw [List.mem_map, List.mem_map] at h1
    constructor
    · intro h
      obtain ⟨b, hb, e⟩ := h1.mp ⟨a, h, rfl⟩
      have : b = a := by omega
      rw [← this]; exact hb
    · intro h
      obtain ⟨b, hb, e⟩ := h1.mpr ⟨a, h, rfl⟩
      have : b = a := by omega
      rw [← this]; exact hb
/-! data that may be compared -/
structure Sh (n : Nat) (d : D) : Prop where
  c : d.canLay0 = true
  dp : d.depth ≤ n
theorem canLayAll_of : ∀ {xs : List D}, (∀ x ∈ xs, x.canLay0 = true) → PyData.canLayAll0 xs = true
  | [], _ => by simp [PyData.canLayAll0]
  | x :: xs, h => by
    simp only [PyData.canLayAll0, h x List.mem_cons_self, canLayAll_of fun y hy => h y (List.mem_cons_of_mem _ hy), Bool.and_self]
theorem depthAll_of {n : Nat} : ∀ {xs : List D}, (∀ x ∈ xs, x.depth ≤ n) → PyData.depthAll xs ≤ n
  | [], _ => by simp [PyData.depthAll]
  | x :: xs, h => by
    have h1 := h x List.mem_cons_self
    have h2 := depthAll_of fun y hy => h y (List.mem_cons_of_mem _ hy)
    simp only [PyData.depthAll]
    omega
theorem Sh.int (n : Nat) (i : Int) : Sh n (.int i) := ⟨by simp [PyData.canLay0], by simp [PyData.depth]⟩
theorem Sh.bool (n : Nat) (i : Bool) : Sh n (.bool i) := ⟨by simp [PyData.canLay0], by simp [PyData.depth]⟩
theorem Sh.none (n : Nat) : Sh n .none := ⟨by simp [PyData.canLay0], by simp [PyData.depth]⟩
theorem Sh.list {n : Nat} {xs : List D} (h : ∀ x ∈ xs, Sh n x) : Sh (n + 1) (.list xs) := ⟨by
  simp only [PyData.canLay0]
  exact canLayAll_of fun x hx => (h x hx).c, by
  have := depthAll_of fun x hx => (h x hx).dp
  simp only [PyData.depth]
  omega⟩
theorem Sh.tuple {n : Nat} {xs : List D} (h : ∀ x ∈ xs, Sh n x) : Sh (n + 1) (.tuple xs) := ⟨by
  simp only [PyData.canLay0]
  exact canLayAll_of fun x hx => (h x hx).c, by
  have := depthAll_of fun x hx => (h x hx).dp
  simp only [PyData.depth]
  omega⟩
theorem Sh.ok {n : Nat} {d : D} (h : Sh n d) (hn : n ≤ 64) : SeqAt.shaped d = true := by
  show (d.canLay0 && decide (d.depth ≤ 64)) = true
  rw [h.c, decide_eq_true (Nat.le_trans h.dp hn)]
  rfl
theorem Sh.row (n : Nat) (row : List Nat) : ∀ x ∈ rowD row, Sh n x := fun x hx => by
  unfold rowD at hx
  obtain ⟨a, _, rfl⟩ := List.mem_map.mp hx
  exact .int n _
theorem dNe_bool (a b : Bool) : dNe (.bool a) (.bool b) = some (.bool (a != b)) := by
  cases a <;> cases b <;> rfl
theorem dEq_bool (a b : Bool) : dEq (.bool a) (.bool b) = some (.bool (a == b)) := by
  cases a <;> cases b <;> rfl
theorem getD_of {row : List Nat} {i a : Nat} (h : row[i]? = some a) : row.getD i 0 = a := by
  rw [List.getD_eq_getElem?_getD, h]
  rfl
theorem get_lt {α : Type} {row : List α} {i : Nat} {a : α} (h : row[i]? = some a) : i < row.length := (List.getElem?_eq_some_iff.mp h).1
theorem get_of {row : List Nat} {i : Nat} (h : i < row.length) : row[i]? = some (row.getD i 0) := by
  rw [List.getD_eq_getElem?_getD, List.getElem?_eq_getElem h]
  rfl
theorem atI_row {row : List Nat} {n a : Nat} (h : row[n]? = some a) : atI (rowD row) (n : Int) = some (.int (a : Int)) := by
  rw [atI_lt (by rw [rowD_len]; exact get_lt h)]
  unfold rowD
  rw [List.getElem?_map, h]
  rfl
theorem enum_len (xs : List D) : (enumD xs).length = xs.length := by unfold enumD; rw [List.length_mapIdx]
theorem enum_get {row : List Nat} {i : Nat} {d : D} (h : (enumD (rowD row))[i]? = some d) : ∃ a, row[i]? = some a ∧ d = .tuple [.int (i : Int), .int (a : Int)] := by
  unfold enumD at h
  rw [List.getElem?_mapIdx] at h
  unfold rowD at h
  rw [List.getElem?_map] at h
  cases e : row[i]? with
  | none => rw [e] at h; cases h
  | some a => rw [e] at h; cases h; exact ⟨a, rfl, rfl⟩
theorem take_succ' {row : List Nat} {j a : Nat} (h : row[j]? = some a) : row.take (j + 1) = row.take j ++ [a] := by
  rw [List.take_add_one, h]
  rfl
/-! least generators, plain -/
theorem asc_eqP : ∀ {l l' : List Nat}, l.Pairwise (· < ·) → l'.Pairwise (· < ·) → (∀ x, x ∈ l ↔ x ∈ l') → l = l'
  | [], [], _, _, _ => rfl
  | [], b :: l', _, _, h => absurd ((h b).mpr List.mem_cons_self) (by simp)
  | a :: l, [], _, _, h => absurd ((h a).mp List.mem_cons_self) (by simp)
  | a :: l, b :: l', h1, h2, h => by
    obtain ⟨p1, q1⟩ := List.pairwise_cons.mp h1
    obtain ⟨p2, q2⟩ := List.pairwise_cons.mp h2
    have e : a = b := by
      rcases List.mem_cons.mp ((h a).mp List.mem_cons_self) with z | z
      · exact z
      · rcases List.mem_cons.mp ((h b).mpr List.mem_cons_self) with y | y
        · exact y.symm
        · have := p2 a z
          have := p1 b y
          omega
    subst e
    congr 1
    refine asc_eqP q1 q2 fun x => ⟨fun hx => ?_, fun hx => ?_⟩
    · rcases List.mem_cons.mp ((h x).mp (List.mem_cons_of_mem _ hx)) with z | z
      · have := p1 x hx
        omega
      · exact z
    · rcases List.mem_cons.mp ((h x).mpr (List.mem_cons_of_mem _ hx)) with z | z
      · have := p2 x hx
        omega
      · exact z
structure Lst (xs R : List Nat) : Prop where
  asc : R.Pairwise (· < ·)
  sub : ∀ x ∈ R, x ∈ xs
  el : ∀ x ∈ xs, El R x
  least : ∀ x ∈ R, ¬ El (R.filter fun y => decide (y < x)) x
theorem El.top {R : List Nat} {n x : Nat} (h : El R n) (hx : n < x) : El (R.filter fun y => decide (y < x)) n := by
  induction h with
  | zero => exact .zero
  | @step n a ha _ ih =>
    exact El.step (List.mem_filter.mpr ⟨ha, decide_eq_true (by omega)⟩) (ih (by omega))
theorem El.split {R : List Nat} {x : Nat} (hx : 0 < x) (h : El R x) : x ∈ R ∨ El (R.filter fun y => decide (y < x)) x := by
  have key : ∀ n, El R n → n ≤ x → n < x ∧ El (R.filter fun y => decide (y < x)) n ∨ n = x ∧ (x ∈ R ∨ El (R.filter fun y => decide (y < x)) x) := fun n hn => by
    induction hn with
    | zero => exact fun _ => .inl ⟨hx, .zero⟩
    | @step n a ha hn ih =>
      intro hle
      rcases Nat.lt_or_ge (n + a) x with z | z
      · exact .inl ⟨z, El.top (El.step ha hn) z⟩
      · have e : n + a = x := by omega
        refine .inr ⟨e, ?_⟩
        rcases Nat.eq_zero_or_pos n with n0 | n0
        · left
          rw [← e, n0, Nat.zero_add]
          exact ha
        · rcases Nat.eq_zero_or_pos a with a0 | a0
          · subst a0
            rcases ih (by omega) with ⟨q, _⟩ | ⟨_, q⟩
            · omega
            · exact q
          · right
            have := El.step (List.mem_filter.mpr ⟨ha, decide_eq_true (show a < x by omega)⟩) (El.top hn (x := x) (by omega))
            rwa [e] at this
  rcases key x h (Nat.le_refl _) with ⟨q, _⟩ | ⟨_, q⟩
  · omega
  · exact q
theorem Lst.mem {xs R : List Nat} (h : Lst xs R) (hp : ∀ x ∈ xs, 0 < x) {x : Nat} : x ∈ R ↔ x ∈ xs ∧ ¬ El (xs.filter fun y => decide (y < x)) x := by
  constructor
  · intro hx
    refine ⟨h.sub x hx, fun e => h.least x hx ?_⟩
    have all : ∀ n, El (xs.filter fun y => decide (y < x)) n → El (R.filter fun y => decide (y < x)) n := fun n hn => by
      induction hn with
      | zero => exact .zero
      | @step n a ha _ ih =>
        obtain ⟨h1, h2⟩ := List.mem_filter.mp ha
        exact ih.add (El.top (h.el a h1) (of_decide_eq_true h2))
    exact all x e
  · rintro ⟨h1, h2⟩
    rcases El.split (hp x h1) (h.el x h1) with z | z
    · exact z
    · refine absurd (El.mono (fun a ha => ?_) z) h2
      obtain ⟨h3, h4⟩ := List.mem_filter.mp ha
      exact List.mem_filter.mpr ⟨h.sub a h3, h4⟩
theorem Lst.unique {xs R R' : List Nat} (hp : ∀ x ∈ xs, 0 < x) (h : Lst xs R) (h' : Lst xs R') : R = R' :=
  asc_eqP h.asc h'.asc fun x => by rw [h.mem hp, h'.mem hp]
theorem Lst.self {xs R : List Nat} (h : Lst xs R) : Lst R R := ⟨h.asc, fun _ hx => hx, fun _ hx => El.mem hx, h.least⟩
theorem gcdL_succ {xs : List Nat} {i a : Nat} (h : xs[i]? = some a) : gcdL (xs.take (i + 1)) = Nat.gcd (gcdL (xs.take i)) a := by
  rw [List.take_add_one, h]
  unfold gcdL
  rw [List.foldl_append]
  rfl
theorem gcdL_dvd {xs : List Nat} : ∀ {x}, x ∈ xs → gcdL xs ∣ x := by
  have key : ∀ (xs : List Nat) (g : Nat), xs.foldl Nat.gcd g ∣ g ∧ ∀ x ∈ xs, xs.foldl Nat.gcd g ∣ x := by
    intro xs
    induction xs with
    | nil => exact fun g => ⟨Nat.dvd_refl _, fun x hx => by cases hx⟩
    | cons a xs ih =>
      intro g
      obtain ⟨h1, h2⟩ := ih (Nat.gcd g a)
      refine ⟨Nat.dvd_trans h1 (Nat.gcd_dvd_left g a), fun x hx => ?_⟩
      rcases List.mem_cons.mp hx with e | e
      · rw [e]; exact Nat.dvd_trans h1 (Nat.gcd_dvd_right g a)
      · exact h2 x e
  intro x hx
  exact (key xs 0).2 x hx
theorem dvd_gcdL {xs : List Nat} {d : Nat} (h : ∀ x ∈ xs, d ∣ x) : d ∣ gcdL xs := by
  have key : ∀ (xs : List Nat) (g : Nat), d ∣ g → (∀ x ∈ xs, d ∣ x) → d ∣ xs.foldl Nat.gcd g := by
    intro xs
    induction xs with
    | nil => exact fun g h _ => h
    | cons a xs ih => exact fun g hg h => ih _ (Nat.dvd_gcd hg (h a List.mem_cons_self)) fun x hx => h x (List.mem_cons_of_mem _ hx)
  exact key xs 0 (Nat.dvd_zero d) h
/-- least generators of xs -/
theorem el_step_iff {row : List Nat} (hp : ∀ a ∈ row, 0 < a) {n : Nat} (hn : 0 < n) : elb row n = row.any fun a => decide (a ≤ n) && elb row (n - a) := by
  rw [Bool.eq_iff_iff, elb_iff, List.any_eq_true]
  constructor
  · intro h
    obtain ⟨a, ha, hl, h2⟩ := h.pre hn
    exact ⟨a, ha, by simp only [Bool.and_eq_true, decide_eq_true_eq, elb_iff]; exact ⟨hl, h2⟩⟩
  · rintro ⟨a, ha, h⟩
    simp only [Bool.and_eq_true, decide_eq_true_eq, elb_iff] at h
    exact El.of_pre ha h.1 h.2
theorem dvd_sub_mod {a b m : Nat} (e : a % m = b % m) (h : a ≤ b) : m ∣ b - a := Nat.dvd_of_mod_eq_zero (Nat.sub_mod_eq_zero_of_mod_eq e.symm)
/-- a residue that sums reach -/
theorem asc_of_steps {R : List Nat} (h : ∀ i, i + 1 < R.length → R.getD i 0 < R.getD (i + 1) 0) : R.Pairwise (· < ·) := by
  refine List.pairwise_iff_getElem.mpr fun i j hi hj hij => ?_
  have g : ∀ k (hk : k < R.length), R[k] = R.getD k 0 := fun k hk => by rw [List.getD_eq_getElem?_getD, List.getElem?_eq_getElem hk]; rfl
  rw [g i hi, g j hj]
  induction j with
  | zero => omega
  | succ j ih =>
    have := h j hj
    rcases Nat.lt_or_ge i j with z | z
    · have := ih (by omega) z
      omega
    · have : i = j := by omega
      subst this
      omega
theorem steps_of_asc {R : List Nat} (h : R.Pairwise (· < ·)) {i : Nat} (hi : i + 1 < R.length) : R.getD i 0 < R.getD (i + 1) 0 := by
  have g : ∀ k (hk : k < R.length), R[k] = R.getD k 0 := fun k hk => by rw [List.getD_eq_getElem?_getD, List.getElem?_eq_getElem hk]; rfl
  rw [← g i (by omega), ← g (i + 1) hi]
  exact List.pairwise_iff_getElem.mp h i (i + 1) (by omega) hi (by omega)
/-! the greedy choice -/
noncomputable def grd (ys : List Nat) : List Nat := ys.foldl (fun R y => if elb R y = true then R else R ++ [y]) []
theorem grd_succ {ys : List Nat} {i y : Nat} (h : ys[i]? = some y) : grd (ys.take (i + 1)) = if elb (grd (ys.take i)) y = true then grd (ys.take i) else grd (ys.take i) ++ [y] := by
  unfold grd
  rw [← take_snoc h, List.foldl_append]
  rfl
theorem grd_snoc (ys : List Nat) (y : Nat) : grd (ys ++ [y]) = if elb (grd ys) y = true then grd ys else grd ys ++ [y] := by
  unfold grd
  rw [List.foldl_append]
  rfl
theorem grd_lst : ∀ (ys : List Nat), ys.Pairwise (· < ·) → (∀ y ∈ ys, 0 < y) → Lst ys (grd ys) ∧ (grd ys).length ≤ ys.length := by
  intro ys
  induction h : ys.reverse generalizing ys with
  | nil =>
    have : ys = [] := by simpa using h
    subst this
    intro _ _
    exact ⟨⟨List.Pairwise.nil, fun _ h => (by cases h), fun _ h => (by cases h), fun _ h => (by cases h)⟩, Nat.le_refl _⟩
  | cons y r ih =>
    have e : ys = r.reverse ++ [y] := by
      have := congrArg List.reverse h
      rwa [List.reverse_reverse, List.reverse_cons] at this
    subst e
    intro as hp
    obtain ⟨a1, _, a3⟩ := List.pairwise_append.mp as
    obtain ⟨⟨b1, b2, b3, b4⟩, b5⟩ := ih r.reverse (by rw [List.reverse_reverse]) a1 (fun z hz => hp z (List.mem_append_left _ hz))
    have lt : ∀ z ∈ grd r.reverse, z < y := fun z hz => a3 z (b2 z hz) y (by simp)
    rw [grd_snoc]
    split
    · rename_i he
      refine ⟨⟨b1, fun z hz => List.mem_append_left _ (b2 z hz), fun z hz => ?_, b4⟩, by rw [List.length_append]; omega⟩
      rcases List.mem_append.mp hz with q | q
      · exact b3 z q
      · rw [List.mem_singleton.mp q]; exact elb_iff.mp he
    · rename_i he
      refine ⟨⟨List.pairwise_append.mpr ⟨b1, List.pairwise_singleton _ _, fun a ha b hb => by rw [List.mem_singleton.mp hb]; exact lt a ha⟩, fun z hz => ?_, fun z hz => ?_, fun z hz => ?_⟩, by simp only [List.length_append, List.length_singleton]; omega⟩
      · rcases List.mem_append.mp hz with q | q
        · exact List.mem_append_left _ (b2 z q)
        · exact List.mem_append_right _ q
      · rcases List.mem_append.mp hz with q | q
        · exact El.mono (fun a ha => List.mem_append_left _ ha) (b3 z q)
        · exact El.mem (List.mem_append_right _ q)
      · rw [List.filter_append]
        rcases List.mem_append.mp hz with q | q
        · have := lt z q
          rw [List.filter_cons_of_neg (by simp; omega), List.filter_nil, List.append_nil]
          exact b4 z q
        · have hzy := List.mem_singleton.mp q
          subst hzy
          rw [List.filter_cons_of_neg (by simp), List.filter_nil, List.append_nil, List.filter_eq_self.mpr (fun a ha => decide_eq_true (lt a ha))]
          intro z
          exact he (elb_iff.mpr z)
theorem Lst.widen {xs ys R : List Nat} (h : Lst xs R) (h1 : ∀ x ∈ xs, x ∈ ys) (h2 : ∀ y ∈ ys, El xs y) : Lst ys R := by
  refine ⟨h.asc, fun x hx => h1 x (h.sub x hx), fun y hy => ?_, h.least⟩
  have all : ∀ n, El xs n → El R n := fun n hn => by
    induction hn with
    | zero => exact .zero
    | @step n a ha _ ih => exact ih.add (h.el a ha)
  exact all y (h2 y hy)
theorem Lst.all {xs R : List Nat} (h : Lst xs R) (n : Nat) : El R n ↔ El xs n := by
  constructor
  · exact El.mono h.sub
  · intro hn
    induction hn with
    | zero => exact .zero
    | @step n a ha _ ih => exact ih.add (h.el a ha)
/-! tables of elements; the least generators of a set -/
def Rw (rd : D) (R : List Nat) : Prop := rd = .tuple (rowD R) ∨ rd = .list (rowD R)
theorem Rw.sq {S : Type} {rd : D} {R : List Nat} (h : Rw rd R) (s : S) : kSq rd s = some (rowD R, s) := by
  rcases h with e | e <;> subst e <;> rfl
theorem e_law_table (fu : Nat) {R : List Nat} (hp : ∀ a ∈ R, 0 < a) (hl : R.length ≤ 900000) {most : Nat} (hm : most ≤ 900000) {rd : D} (hrd : Rw rd R) :
    m__law_table fu [some rd, some (.int (most : Int))] () = some (.list (tab (elb R) (most + 1)), ()) := by
  refine wp_eqU ?_
  have hsq := hrd.sq ()
  unfold m__law_table
  simp_arith [tab_init]
  refine wp_forR1 (fun i ρ _ => ∃ (p : Nat → Bool) (a3 a4 : Option D), ρ = [some rd, some (.int (most : Int)), some (.list (tab p (most + 1))), a3, a4] ∧ ∀ k, k ≤ i → p k = elb R k) ⟨_, _, _, rfl, fun k hk => by rw [show k = 0 by omega, elb_zero]; rfl⟩ ?_ ?_
  · rintro i hi _ s ⟨p, a3, a4, rfl, h⟩
    simp_arith [hsq]
    refine wp_lc (l := R) (f := fun a : Nat => .int (a : Int)) (fun a => decide (a ≤ i + 1) && p (i + 1 - a)) (fun _ => .int 1) (fun a ha => ⟨?_, fun _ => by simp_arith []⟩) ?_
    · have := hp a ha
      by_cases hle : a ≤ i + 1
      · simp_arith [hle]
      · simp_arith [hle]
    · have hf := List.length_filter_le (fun a => decide (a ≤ i + 1) && p (i + 1 - a)) R
      have e1 : ∀ l : List Nat, dNe (.list (l.map fun _ => PyData.int 1)) (.list []) = some (.bool (!l.isEmpty)) := fun l => y_nen (fun _ => (1 : Int)) l
      have ev1 : (!(R.filter fun a => decide (a ≤ i + 1) && p (i + 1 - a)).isEmpty) = elb R (i + 1) := by
        rw [filter_isEmpty, el_step_iff hp (by omega), List.not_all_eq_any_not, Bool.eq_iff_iff, List.any_eq_true, List.any_eq_true]
        constructor
        · rintro ⟨a, ha, e⟩
          have := hp a ha
          rw [h (i + 1 - a) (by omega)] at e
          exact ⟨a, ha, by simpa using e⟩
        · rintro ⟨a, ha, e⟩
          have := hp a ha
          rw [← h (i + 1 - a) (by omega)] at e
          exact ⟨a, ha, by simpa using e⟩
      simp_arith [e1, ev1]
      refine ⟨_, _, _, rfl, fun k hk => ?_⟩
      show (if k = i + 1 then elb R (i + 1) else p k) = _
      split
      · rename_i e; rw [e]
      · exact h k (by omega)
  · rintro _ s ⟨p, a3, a4, rfl, h⟩
    simp_arith []
    rw [tab_congr (q := elb R) fun n hn => h n (by omega)]
/-! numbers without a common divisor: the least elements, the greatest gap, the genus (plain) -/
theorem el_list {R : List Nat} {n : Nat} : El R n ↔ ∃ l : List Nat, (∀ a ∈ l, a ∈ R) ∧ l.sum = n := by
  constructor
  · intro h
    induction h with
    | zero => exact ⟨[], (fun a h => by cases h), rfl⟩
    | @step n a ha _ ih =>
      obtain ⟨l, h1, h2⟩ := ih
      exact ⟨a :: l, fun b hb => (List.mem_cons.mp hb).elim (fun e => by rw [e]; exact ha) (h1 b), by rw [List.sum_cons, h2]; omega⟩
  · rintro ⟨l, h1, h2⟩
    induction l generalizing n with
    | nil => rw [← h2]; exact .zero
    | cons a l ih =>
      rw [List.sum_cons] at h2
      have := El.step (h1 a List.mem_cons_self) (ih (fun b hb => h1 b (List.mem_cons_of_mem _ hb)) (n := l.sum) rfl)
      rw [← h2, Nat.add_comm]
      exact this
theorem mem_le_sum : ∀ {l : List Nat} {a : Nat}, a ∈ l → a ≤ l.sum
  | b :: l, a, h => by
    rw [List.sum_cons]
    rcases List.mem_cons.mp h with e | e
    · omega
    · have := mem_le_sum e
      omega
theorem dvd_sub_modF {a b m : Nat} (e : a % m = b % m) (h : a ≤ b) : m ∣ b - a := Nat.dvd_of_mod_eq_zero (Nat.sub_mod_eq_zero_of_mod_eq e.symm)
/-- a residue that sums reach -/
def Rch (R : List Nat) (m r : Nat) : Prop := ∃ n, El R n ∧ n % m = r % m
theorem Rch.add {R : List Nat} {m r t : Nat} (h : Rch R m r) (h' : Rch R m t) : Rch R m (r + t) := by
  obtain ⟨n, e1, e2⟩ := h
  obtain ⟨k, e3, e4⟩ := h'
  exact ⟨n + k, e1.add e3, by rw [Nat.add_mod, e2, e4, ← Nat.add_mod]⟩
theorem Rch.mul {R : List Nat} {m r : Nat} (h : Rch R m r) : ∀ k, Rch R m (k * r)
  | 0 => ⟨0, .zero, by rw [Nat.zero_mul]⟩
  | k + 1 => by rw [Nat.succ_mul]; exact (Rch.mul h k).add h
theorem Rch.cong {R : List Nat} {m r t : Nat} (h : Rch R m r) (e : r % m = t % m) : Rch R m t := by
  obtain ⟨n, e1, e2⟩ := h
  exact ⟨n, e1, e2.trans e⟩
theorem rch_one {R : List Nat} {m : Nat} (hm : 0 < m) (hg : gcdL R = 1) : Rch R m 1 := by
  have ex : ∃ g, 0 < g ∧ Rch R m g := ⟨m, hm, 0, .zero, by rw [Nat.zero_mod, Nat.mod_self]⟩
  obtain ⟨g, ⟨g0, gr⟩, gl⟩ : ∃ g, (0 < g ∧ Rch R m g) ∧ ∀ t, t < g → ¬ (0 < t ∧ Rch R m t) := by
    obtain ⟨k, hk⟩ := ex
    induction k using Nat.strongRecOn with
    | _ k ih =>
      by_cases h : ∃ t, t < k ∧ (0 < t ∧ Rch R m t)
      · obtain ⟨t, h1, h2⟩ := h
        exact ih t h1 h2
      · exact ⟨k, hk, fun t h1 h2 => h ⟨t, h1, h2⟩⟩
  have dv : ∀ a ∈ R, g ∣ a := fun a ha => by
    have hd := Nat.div_add_mod a g
    have ht : a % g < g := Nat.mod_lt _ g0
    have r1 : Rch R m (a + (a / g) * (m - 1) * g) := by
      refine Rch.add ⟨a, El.mem ha, rfl⟩ ?_
      exact Rch.mul gr _
    have r2 : Rch R m (a % g) := r1.cong (by
      have : a + (a / g) * (m - 1) * g = a % g + (a / g * g) * m := by
        have e1 : (a / g) * (m - 1) * g + (a / g) * g = (a / g * g) * m := by
          obtain ⟨k, rfl⟩ : ∃ k, m = k + 1 := ⟨m - 1, by omega⟩
          rw [Nat.add_sub_cancel, Nat.mul_add, Nat.mul_one, Nat.mul_assoc, Nat.mul_assoc, Nat.mul_comm k g]
        have e2 : g * (a / g) = a / g * g := Nat.mul_comm _ _
        omega
      rw [this, Nat.add_mul_mod_self_right])
    rcases Nat.eq_zero_or_pos (a % g) with z | z
    · exact Nat.dvd_of_mod_eq_zero z
    · exact absurd ⟨z, r2⟩ (gl _ ht)
  have := dvd_gcdL dv
  rw [hg] at this
  have : g = 1 := Nat.dvd_one.mp this
  rw [this] at gr
  exact gr
theorem rch_all {R : List Nat} {m : Nat} (hm : 0 < m) (hg : gcdL R = 1) (r : Nat) : Rch R m r := by
  have := (rch_one hm hg).mul r
  rwa [Nat.mul_one] at this
/-- few summands make a least element -/
theorem short {R : List Nat} {m w : Nat} (hp : ∀ a ∈ R, 0 < a) (hm : 0 < m) (h : El R w) (hl : ∀ n, El R n → n % m = w % m → w ≤ n) : ∃ l : List Nat, (∀ a ∈ l, a ∈ R) ∧ l.sum = w ∧ l.length + 1 ≤ m := by
  obtain ⟨l, h1, h2⟩ := el_list.mp h
  refine ⟨l, h1, h2, ?_⟩
  have nd : ((List.range (l.length + 1)).map fun i => (l.take i).sum % m).Nodup := by
    refine List.pairwise_map.mpr ((List.pairwise_lt_range).imp_of_mem fun {i j} hi hj hij e => ?_)
    have hj := List.mem_range.mp hj
    -- leave out the part between
    have s1 : l.sum = (l.take j).sum + (l.drop j).sum := by
      rw [← List.sum_append, List.take_append_drop]
    have s2 : (l.take j).sum = (l.take i).sum + ((l.take j).drop i).sum := by
      have := List.take_append_drop i (l.take j)
      rw [List.take_take, Nat.min_eq_left (Nat.le_of_lt hij)] at this
      rw [← List.sum_append, this]
    have pos : 0 < ((l.take j).drop i).sum := by
      have hlen : 0 < ((l.take j).drop i).length := by rw [List.length_drop, List.length_take]; omega
      obtain ⟨a, ha⟩ := List.exists_mem_of_length_pos hlen
      have : a ≤ ((l.take j).drop i).sum := mem_le_sum ha
      have := hp a (h1 a (List.mem_of_mem_take (List.mem_of_mem_drop ha)))
      omega
    have el : El R ((l.take i).sum + (l.drop j).sum) := el_list.mpr ⟨l.take i ++ l.drop j, fun a ha => (List.mem_append.mp ha).elim (fun z => h1 a (List.mem_of_mem_take z)) (fun z => h1 a (List.mem_of_mem_drop z)), by rw [List.sum_append]⟩
    have := hl _ el (by
      rw [← h2, s1, Nat.add_mod, e, ← Nat.add_mod])
    omega
  have := nodup_bd m _ nd fun x hx => by
    obtain ⟨i, _, rfl⟩ := List.mem_map.mp hx
    exact Nat.mod_lt _ hm
  rwa [List.length_map, List.length_range] at this
theorem sum_le {M : Nat} : ∀ {l : List Nat}, (∀ a ∈ l, a ≤ M) → l.sum ≤ l.length * M
  | [], _ => Nat.zero_le _
  | a :: l, h => by
    have h1 := h a List.mem_cons_self
    have h2 := sum_le fun b hb => h b (List.mem_cons_of_mem _ hb)
    rw [List.sum_cons, List.length_cons, Nat.add_mul]
    omega
/-- the least elements of R for m, in all residues -/
structure Ap (R : List Nat) (m : Nat) (ap : Nat → Nat) : Prop where
  pos : 0 < m
  el : ∀ k, k < m → El R (ap k) ∧ ap k % m = k
  iff : ∀ n, El R n ↔ ap (n % m) ≤ n
theorem Ap.zero {R : List Nat} {m : Nat} {ap : Nat → Nat} (h : Ap R m ap) : ap 0 = 0 := by
  have := (h.iff 0).mp .zero
  rw [Nat.zero_mod] at this
  omega
theorem Ap.unique {R R' : List Nat} {m : Nat} {ap ap' : Nat → Nat} (h : Ap R m ap) (h' : Ap R' m ap') (e : ∀ n, El R n ↔ El R' n) {k : Nat} (hk : k < m) : ap k = ap' k := by
  have h1 := (h.iff (ap' k)).mp ((e _).mpr (h'.el k hk).1)
  rw [(h'.el k hk).2] at h1
  have h2 := (h'.iff (ap k)).mp ((e _).mp (h.el k hk).1)
  rw [(h.el k hk).2] at h2
  omega
theorem Ap.bound {R : List Nat} {m M : Nat} {ap : Nat → Nat} (h : Ap R m ap) (hp : ∀ a ∈ R, 0 < a) (hM : ∀ a ∈ R, a ≤ M) {k : Nat} (hk : k < m) : ap k ≤ (m - 1) * M := by
  obtain ⟨e1, e2⟩ := h.el k hk
  obtain ⟨l, h1, h2, h3⟩ := short hp h.pos e1 fun n en er => by
    have := (h.iff n).mp en
    rw [er, e2] at this
    exact this
  rw [← h2]
  exact Nat.le_trans (sum_le fun a ha => hM a (h1 a ha)) (Nat.mul_le_mul_right _ (by omega))
/-- the least elements in a row -/
def apL (ap : Nat → Nat) (m : Nat) : List Nat := (List.range m).map ap
theorem maxI_nat (xs : List Nat) (h : xs ≠ []) : ∃ M : Nat, maxI (xs.map fun a : Nat => (a : Int)) = (M : Int) ∧ M ∈ xs ∧ ∀ a ∈ xs, a ≤ M := by
  have h1 := maxI_mem (xs.map fun a : Nat => (a : Int)) (by simpa using h)
  have h2 := maxI_le (xs.map fun a : Nat => (a : Int))
  obtain ⟨M, hM, e⟩ := List.mem_map.mp h1
  refine ⟨M, e.symm, hM, fun a ha => ?_⟩
  have := h2 (a : Int) (List.mem_map.mpr ⟨a, ha, rfl⟩)
  rw [← e] at this
  omega
theorem gMax_row (xs : List Nat) (h : xs ≠ []) : ∃ M : Nat, gMax [.list (rowD xs)] = some (.int (M : Int)) ∧ M ∈ xs ∧ ∀ a ∈ xs, a ≤ M := by
  obtain ⟨M, e, h1, h2⟩ := maxI_nat xs h
  refine ⟨M, ?_, h1, h2⟩
  show (ints? (rowD xs)).bind _ = _
  rw [rowD_ints, ints?_map, Option.bind_some, if_pos (by simpa using h), e]
theorem gSum_row (xs : List Nat) : gSum [.list (rowD xs)] = some (.int ((xs.sum : Nat) : Int)) := by
  show (ints? (rowD xs)).bind _ = _
  rw [rowD_ints, ints?_map, Option.bind_some]
  congr 2
  induction xs with
  | nil => rfl
  | cons a r ih => rw [List.map_cons, List.sum_cons, List.sum_cons, ih]; push_cast; rfl
/-- the greatest of the least elements, less m: no gap is greater, and it is one -/
theorem Ap.gap {R : List Nat} {m M : Nat} {ap : Nat → Nat} (h : Ap R m ap) (hM : M ∈ apL ap m) (hmax : ∀ a ∈ apL ap m, a ≤ M) : (∀ n, ¬ El R n → n + m ≤ M) ∧ (m ≤ M → ¬ El R (M - m)) := by
  constructor
  · intro n hn
    have hk := Nat.mod_lt n h.pos
    have h1 := hmax (ap (n % m)) (List.mem_map.mpr ⟨_, List.mem_range.mpr hk, rfl⟩)
    have h2 : ¬ ap (n % m) ≤ n := fun z => hn ((h.iff n).mpr z)
    have h3 := (h.el _ hk).2
    -- both have the same residue
    have : m ∣ ap (n % m) - n := dvd_sub_modF h3.symm (by omega)
    have := Nat.le_of_dvd (by omega) this
    omega
  · intro hle he
    obtain ⟨k, hk, rfl⟩ := List.mem_map.mp hM
    have hk := List.mem_range.mp hk
    have h1 := (h.iff _).mp he
    have : (ap k - m) % m = k := by
      rw [← Nat.mod_eq_sub_mod hle, (h.el k hk).2]
    rw [this] at h1
    have := h.pos
    omega
/-- counting by residues -/
theorem count_res (p : Nat → Bool) (m : Nat) : ∀ N, ((List.range (N * m)).filter p).length = ((List.range m).map fun k => ((List.range N).filter fun t => p (k + t * m)).length).sum
  | 0 => by
    rw [Nat.zero_mul]
    have : ∀ l : List Nat, (l.map fun k => ((List.range 0).filter fun t => p (k + t * m)).length).sum = 0 := fun l => by
      induction l with
      | nil => rfl
      | cons a r ih => rw [List.map_cons, List.sum_cons, ih]; rfl
    rw [this]
    rfl
  | N + 1 => by
    rw [Nat.succ_mul, List.range_add, List.filter_append, List.length_append, count_res p m N]
    have h1 : (((List.range m).map fun x => N * m + x).filter p).length = ((List.range m).map fun k => if p (k + N * m) = true then 1 else 0).sum := by
      have : ∀ l : List Nat, ((l.map fun x => N * m + x).filter p).length = (l.map fun k => if p (k + N * m) = true then 1 else 0).sum := fun l => by
        induction l with
        | nil => rfl
        | cons a r ih =>
          rw [List.map_cons, List.map_cons, List.sum_cons, ← ih, Nat.add_comm (N * m) a]
          by_cases hp : p (a + N * m) = true
          · rw [List.filter_cons_of_pos hp, if_pos hp, List.length_cons]
            omega
          · rw [List.filter_cons_of_neg hp, if_neg hp]
            omega
      exact this _
    rw [h1]
    have h2 : ∀ l : List Nat, (l.map fun k => ((List.range N).filter fun t => p (k + t * m)).length).sum + (l.map fun k => if p (k + N * m) = true then 1 else 0).sum = (l.map fun k => ((List.range (N + 1)).filter fun t => p (k + t * m)).length).sum := fun l => by
      induction l with
      | nil => rfl
      | cons a r ih =>
        rw [List.map_cons, List.map_cons, List.map_cons, List.sum_cons, List.sum_cons, List.sum_cons, ← ih, List.range_succ, List.filter_append, List.length_append]
        by_cases hp : p (a + N * m) = true
        · rw [if_pos hp, List.filter_cons_of_pos (by simpa using hp)]
          simp
          omega
        · rw [if_neg hp, List.filter_cons_of_neg (by simpa using hp)]
          simp
          omega
    exact h2 _
theorem Ap.genus {R : List Nat} {m N : Nat} {ap : Nat → Nat} (h : Ap R m ap) (hN : ∀ k, k < m → ap k ≤ N * m) : ((List.range (N * m)).filter fun n => !elb R n).length = ((apL ap m).map fun a => a / m).sum := by
  rw [count_res]
  unfold apL
  rw [List.map_map]
  congr 1
  refine List.map_congr_left fun k hk => ?_
  have hk := List.mem_range.mp hk
  have hmp := h.pos
  show _ = ap k / m
  have e2 := (h.el k hk).2
  have e3 := Nat.div_add_mod (ap k) m
  rw [e2] at e3
  have : (List.range N).filter (fun t => !elb R (k + t * m)) = (List.range N).filter fun t => decide (t < ap k / m) := by
    refine List.filter_congr fun t _ => ?_
    rw [Bool.eq_iff_iff, Bool.not_eq_true', elb_false, decide_eq_true_iff, h.iff, Nat.add_mul_mod_self_right, Nat.mod_eq_of_lt hk]
    constructor
    · intro z
      have z : k + t * m < ap k := by omega
      rw [← e3] at z
      have : t * m < m * (ap k / m) := by omega
      rw [Nat.mul_comm] at this
      exact Nat.lt_of_mul_lt_mul_left this
    · intro z hz
      have : m * (t + 1) ≤ m * (ap k / m) := Nat.mul_le_mul_left _ z
      rw [Nat.mul_add, Nat.mul_comm m t] at this
      omega
  rw [this, filter_range (M := ap k / m) (fun n h => by simpa using h) ?_, List.filter_eq_self.mpr (fun n hn => by simpa using List.mem_range.mp hn), List.length_range]
  have := hN k hk
  exact Nat.div_le_of_le_mul (by rw [Nat.mul_comm]; exact this)
theorem ap_ex {R : List Nat} {m : Nat} (hm : 0 < m) (hme : El R m) (hg : gcdL R = 1) : ∃ ap, Ap R m ap := by
  have tot : ∀ k, ∃ n, El R n ∧ n % m = k % m := fun k => rch_all hm hg k
  have lst : ∀ k, ∃ n, (El R n ∧ n % m = k % m) ∧ ∀ w, w < n → ¬ (El R w ∧ w % m = k % m) := fun k => ex_least (tot k)
  refine ⟨fun k => Classical.choose (lst k), hm, fun k hk => ?_, fun n => ?_⟩
  · obtain ⟨⟨a, b⟩, _⟩ := Classical.choose_spec (lst k)
    exact ⟨a, by rw [b, Nat.mod_eq_of_lt hk]⟩
  · obtain ⟨⟨a, b⟩, c⟩ := Classical.choose_spec (lst (n % m))
    have b := b.trans (Nat.mod_mod n m)
    constructor
    · intro h
      refine Decidable.byContradiction fun z => c n (by omega) ⟨h, by rw [Nat.mod_mod]⟩
    · intro h
      obtain ⟨q, hq⟩ := dvd_sub_modF b h
      have := a.add (hme.mul q)
      rwa [show Classical.choose (lst (n % m)) + q * m = n by rw [Nat.mul_comm q m]; omega] at this
/-! remainders: the least elements, by the shortest ways -/
def otab (told : Nat → Option Nat) (m : Nat) : List D := (List.range m).map fun k => match told k with
  | some w => .int (w : Int)
  | none => .none
theorem otab_len (told : Nat → Option Nat) (m : Nat) : (otab told m).length = m := by unfold otab; rw [List.length_map, List.length_range]
theorem otab_get {told : Nat → Option Nat} {m k : Nat} (h : k < m) : atI (otab told m) (k : Int) = some (match told k with | some w => .int (w : Int) | none => .none) := by
  rw [atI_lt (by rw [otab_len]; exact h)]
  unfold otab
  rw [List.getElem?_map, List.getElem?_range h]
  rfl
theorem otab_some {told : Nat → Option Nat} {m k w : Nat} (h : k < m) (e : told k = some w) : atI (otab told m) (k : Int) = some (.int (w : Int)) := by rw [otab_get h, e]
theorem otab_none {told : Nat → Option Nat} {m k : Nat} (h : k < m) (e : told k = none) : atI (otab told m) (k : Int) = some .none := by rw [otab_get h, e]
theorem otab_set {told : Nat → Option Nat} {m k v : Nat} : (otab told m).set k (.int (v : Int)) = otab (fun i => if i = k then some v else told i) m := by
  refine List.ext_getElem? fun i => ?_
  by_cases hi : i < m
  · by_cases e : k = i
    · subst e
      rw [List.getElem?_set_self (by rw [otab_len]; exact hi)]
      unfold otab
      rw [List.getElem?_map, List.getElem?_range hi]
      simp
    · rw [List.getElem?_set_ne e]
      unfold otab
      rw [List.getElem?_map, List.getElem?_map, List.getElem?_range hi]
      have : ¬ i = k := fun q => e q.symm
      simp only [Option.map_some, this, if_false]
  · rw [List.getElem?_eq_none (by rw [List.length_set, otab_len]; omega), List.getElem?_eq_none (by rw [otab_len]; omega)]
theorem enum_otab {told : Nat → Option Nat} {m i : Nat} {d : D} (h : (enumD (otab told m))[i]? = some d) : i < m ∧ d = .tuple [.int (i : Int), match told i with | some w => .int (w : Int) | none => .none] := by
  unfold enumD at h
  rw [List.getElem?_mapIdx] at h
  by_cases hi : i < m
  · unfold otab at h
    rw [List.getElem?_map, List.getElem?_range hi] at h
    cases h
    exact ⟨hi, rfl⟩
  · rw [List.getElem?_eq_none (by rw [otab_len]; omega)] at h
    cases h
/-- a place that may be taken -/
def Cand (told : Nat → Option Nat) (dn : Nat → Bool) (q w : Nat) : Prop := dn q = false ∧ told q = some w
def Best (told : Nat → Option Nat) (dn : Nat → Bool) (n : Nat) : Option Nat → Prop
  | none => ∀ q w, q < n → ¬ Cand told dn q w
  | some p => p < n ∧ ∃ v, Cand told dn p v ∧ ∀ q w, q < n → Cand told dn q w → v ≤ w
def optD : Option Nat → D
  | none => .none
  | some p => .int (p : Int)
theorem e_least_place (fu : Nat) (told : Nat → Option Nat) (dn : Nat → Bool) (m : Nat) : ∃ b, m_least_place fu [some (.list (otab told m)), some (.list (tab dn m))] () = some (optD b, ()) ∧ Best told dn m b := by
  obtain ⟨ρ', s', e, b, x3, x4, rfl, hb⟩ : ∃ ρ' s', forGo (gT 2 (gsC (gN 3) (gsC (gN 4) gsN))) (sIf (tAn (tOf (eOp2 dIsn (eVar 4) (eC .none))) (tAn (tNo (tTr (eOp2 dIx (eVar 1) (eVar 3)))) (tOo (tOf (eOp2 dIs (eVar 2) (eC .none))) (tOf (eOp2 dLt (eVar 4) (eOp2 dIx (eVar 0) (eVar 2)))))))
      (sSet 2 (eVar 3)) sNx) (enumD (otab told m)) [some (.list (otab told m)), some (.list (tab dn m)), some .none, none, none] () = some (.nx ρ', s') ∧ ∃ b x3 x4, ρ' = [some (.list (otab told m)), some (.list (tab dn m)), some (optD b), x3, x4] ∧ Best told dn (enumD (otab told m)).length b := by
    refine forGo_at (enumD (otab told m)) (fun i ρ s => ∃ b x3 x4, ρ = [some (.list (otab told m)), some (.list (tab dn m)), some (optD b), x3, x4] ∧ Best told dn i b) ?_ _ _ ⟨none, none, none, rfl, fun q w h => by omega⟩
    rintro i d hd ρ s ⟨b, x3, x4, rfl, hb⟩
    obtain ⟨hi, rfl⟩ := enum_otab hd
    refine ⟨[some (.list (otab told m)), some (.list (tab dn m)), some (optD b), some (.int (i : Int)), some (match told i with | some w => .int (w : Int) | none => .none)], by simp only [x_bnd, x_bndN, x_var, x_c, x_op2, x_op1, x_tr, x_not, x_and, x_or, x_tan, x_too, x_tno, x_tof, x_kof, x_kso, x_if, x_nil, x_cons, x_lst, x_tup, x_call, x_callP, x_callS, x_sc, x_sl, x_no, x_seq, x_kn, x_kr, x_kb, x_kc, x_nx, x_bk, x_ct, x_set, x_ret, x_sif, x_drop, x_tg, x_gn, x_gtup, x_glist, x_gsn, x_gsc, x_so, x_for, x_lseq, x_ksl, x_kst, x_app, x_kapp, x_six, x_kix, x_aug, x_kaug, x_par, x_kpar, x_par3, x_kpar3, x_lc, x_any, x_yes, x_enum, x_kel, x_ket, x_range1, x_kr1, x_range2, x_kr2, x_fn, x_add, x_sub, x_lt, x_le, x_gt, x_ge, x_eq, x_ne, x_ixl, x_ixt, x_len, x_lent, x_tupl, x_tupt, x_lstl, x_lstt, x_int, x_trb, x_tri, x_trt, x_trl, x_wipe, x_wipe0, x_chain, x_kcht, x_kchf, x_gcd, x_escl, x_kscl, x_self, x_iss, x_maxg, x_ming, x_sortg, x_ord, x_ordn, x_revl, x_revt, bd1, bd0, Bool.and_self, Bool.and_true, Bool.true_and, List.getElem?_cons_zero, List.getElem?_cons_succ, List.set_cons_zero, List.set_cons_succ, List.set_nil, Option.bind_some, if_true, if_false, Bool.false_eq_true, reduceIte, List.length_cons, List.length_nil, Nat.reduceAdd, Nat.reduceSub, Nat.reduceLeDiff, Nat.reduceLT, Nat.zero_add, List.map_cons, List.map_nil, List.replicate_succ, List.replicate_zero, List.cons_append, List.nil_append, List.append_nil], ?_⟩
    have e1 := atI_tab (p := dn) hi
    cases ht : told i with
    | none =>
      have k1 : dIsn .none .none = some (.bool false) := rfl
      refine ⟨[some (.list (otab told m)), some (.list (tab dn m)), some (optD b), some (.int (i : Int)), some .none], (), by simp only [x_bnd, x_bndN, x_var, x_c, x_op2, x_op1, x_tr, x_not, x_and, x_or, x_tan, x_too, x_tno, x_tof, x_kof, x_kso, x_if, x_nil, x_cons, x_lst, x_tup, x_call, x_callP, x_callS, x_sc, x_sl, x_no, x_seq, x_kn, x_kr, x_kb, x_kc, x_nx, x_bk, x_ct, x_set, x_ret, x_sif, x_drop, x_tg, x_gn, x_gtup, x_glist, x_gsn, x_gsc, x_so, x_for, x_lseq, x_ksl, x_kst, x_app, x_kapp, x_six, x_kix, x_aug, x_kaug, x_par, x_kpar, x_par3, x_kpar3, x_lc, x_any, x_yes, x_enum, x_kel, x_ket, x_range1, x_kr1, x_range2, x_kr2, x_fn, x_add, x_sub, x_lt, x_le, x_gt, x_ge, x_eq, x_ne, x_ixl, x_ixt, x_len, x_lent, x_tupl, x_tupt, x_lstl, x_lstt, x_int, x_trb, x_tri, x_trt, x_trl, x_wipe, x_wipe0, x_chain, x_kcht, x_kchf, x_gcd, x_escl, x_kscl, x_self, x_iss, x_maxg, x_ming, x_sortg, x_ord, x_ordn, x_revl, x_revt, bd1, bd0, Bool.and_self, Bool.and_true, Bool.true_and, List.getElem?_cons_zero, List.getElem?_cons_succ, List.set_cons_zero, List.set_cons_succ, List.set_nil, Option.bind_some, if_true, if_false, Bool.false_eq_true, reduceIte, List.length_cons, List.length_nil, Nat.reduceAdd, Nat.reduceSub, Nat.reduceLeDiff, Nat.reduceLT, Nat.zero_add, List.map_cons, List.map_nil, List.replicate_succ, List.replicate_zero, List.cons_append, List.nil_append, List.append_nil, k1], b, _, _, rfl, ?_⟩
      cases b with
      | none =>
        exact fun q w hq hc => by
          rcases Nat.lt_or_ge q i with z | z
          · exact hb q w z hc
          · have : q = i := by omega
            subst this
            have := hc.2
            rw [ht] at this
            cases this
      | some p =>
        obtain ⟨h1, v, h2, h3⟩ := hb
        refine ⟨by omega, v, h2, fun q w hq hc => ?_⟩
        rcases Nat.lt_or_ge q i with z | z
        · exact h3 q w z hc
        · have : q = i := by omega
          subst this
          have := hc.2
          rw [ht] at this
          cases this
    | some w0 =>
      have k1 : dIsn (.int (w0 : Int)) .none = some (.bool true) := rfl
      cases hdn : dn i with
      | true =>
        rw [hdn] at e1
        refine ⟨[some (.list (otab told m)), some (.list (tab dn m)), some (optD b), some (.int (i : Int)), some (.int (w0 : Int))], (), by simp only [x_bnd, x_bndN, x_var, x_c, x_op2, x_op1, x_tr, x_not, x_and, x_or, x_tan, x_too, x_tno, x_tof, x_kof, x_kso, x_if, x_nil, x_cons, x_lst, x_tup, x_call, x_callP, x_callS, x_sc, x_sl, x_no, x_seq, x_kn, x_kr, x_kb, x_kc, x_nx, x_bk, x_ct, x_set, x_ret, x_sif, x_drop, x_tg, x_gn, x_gtup, x_glist, x_gsn, x_gsc, x_so, x_for, x_lseq, x_ksl, x_kst, x_app, x_kapp, x_six, x_kix, x_aug, x_kaug, x_par, x_kpar, x_par3, x_kpar3, x_lc, x_any, x_yes, x_enum, x_kel, x_ket, x_range1, x_kr1, x_range2, x_kr2, x_fn, x_add, x_sub, x_lt, x_le, x_gt, x_ge, x_eq, x_ne, x_ixl, x_ixt, x_len, x_lent, x_tupl, x_tupt, x_lstl, x_lstt, x_int, x_trb, x_tri, x_trt, x_trl, x_wipe, x_wipe0, x_chain, x_kcht, x_kchf, x_gcd, x_escl, x_kscl, x_self, x_iss, x_maxg, x_ming, x_sortg, x_ord, x_ordn, x_revl, x_revt, bd1, bd0, Bool.and_self, Bool.and_true, Bool.true_and, List.getElem?_cons_zero, List.getElem?_cons_succ, List.set_cons_zero, List.set_cons_succ, List.set_nil, Option.bind_some, if_true, if_false, Bool.false_eq_true, reduceIte, List.length_cons, List.length_nil, Nat.reduceAdd, Nat.reduceSub, Nat.reduceLeDiff, Nat.reduceLT, Nat.zero_add, List.map_cons, List.map_nil, List.replicate_succ, List.replicate_zero, List.cons_append, List.nil_append, List.append_nil, k1, e1, Bool.not_true], b, _, _, rfl, ?_⟩
        cases b with
        | none =>
          exact fun q w hq hc => by
            rcases Nat.lt_or_ge q i with z | z
            · exact hb q w z hc
            · have : q = i := by omega
              subst this
              have := hc.1
              rw [hdn] at this
              cases this
        | some p =>
          obtain ⟨h1, v, h2, h3⟩ := hb
          refine ⟨by omega, v, h2, fun q w hq hc => ?_⟩
          rcases Nat.lt_or_ge q i with z | z
          · exact h3 q w z hc
          · have : q = i := by omega
            subst this
            have := hc.1
            rw [hdn] at this
            cases this
      | false =>
        rw [hdn] at e1
        cases b with
        | none =>
          have k2 : dIs .none .none = some (.bool true) := rfl
          refine ⟨[some (.list (otab told m)), some (.list (tab dn m)), some (.int (i : Int)), some (.int (i : Int)), some (.int (w0 : Int))], (), by simp only [x_bnd, x_bndN, x_var, x_c, x_op2, x_op1, x_tr, x_not, x_and, x_or, x_tan, x_too, x_tno, x_tof, x_kof, x_kso, x_if, x_nil, x_cons, x_lst, x_tup, x_call, x_callP, x_callS, x_sc, x_sl, x_no, x_seq, x_kn, x_kr, x_kb, x_kc, x_nx, x_bk, x_ct, x_set, x_ret, x_sif, x_drop, x_tg, x_gn, x_gtup, x_glist, x_gsn, x_gsc, x_so, x_for, x_lseq, x_ksl, x_kst, x_app, x_kapp, x_six, x_kix, x_aug, x_kaug, x_par, x_kpar, x_par3, x_kpar3, x_lc, x_any, x_yes, x_enum, x_kel, x_ket, x_range1, x_kr1, x_range2, x_kr2, x_fn, x_add, x_sub, x_lt, x_le, x_gt, x_ge, x_eq, x_ne, x_ixl, x_ixt, x_len, x_lent, x_tupl, x_tupt, x_lstl, x_lstt, x_int, x_trb, x_tri, x_trt, x_trl, x_wipe, x_wipe0, x_chain, x_kcht, x_kchf, x_gcd, x_escl, x_kscl, x_self, x_iss, x_maxg, x_ming, x_sortg, x_ord, x_ordn, x_revl, x_revt, bd1, bd0, Bool.and_self, Bool.and_true, Bool.true_and, List.getElem?_cons_zero, List.getElem?_cons_succ, List.set_cons_zero, List.set_cons_succ, List.set_nil, Option.bind_some, if_true, if_false, Bool.false_eq_true, reduceIte, List.length_cons, List.length_nil, Nat.reduceAdd, Nat.reduceSub, Nat.reduceLeDiff, Nat.reduceLT, Nat.zero_add, List.map_cons, List.map_nil, List.replicate_succ, List.replicate_zero, List.cons_append, List.nil_append, List.append_nil, k1, e1, Bool.not_false, optD, k2], some i, _, _, rfl, by omega, w0, ⟨hdn, ht⟩, fun q w hq hc => ?_⟩
          rcases Nat.lt_or_ge q i with z | z
          · exact absurd hc (hb q w z)
          · have : q = i := by omega
            subst this
            have := hc.2
            rw [ht] at this
            have := Option.some.inj this
            omega
        | some p =>
          obtain ⟨h1, v, h2, h3⟩ := hb
          have k2 : dIs (.int (p : Int)) .none = some (.bool false) := rfl
          have e2 := otab_some (told := told) (m := m) (k := p) (by omega) h2.2
          by_cases hlt : w0 < v
          · have k3 : decide ((w0 : Int) < (v : Int)) = true := decide_eq_true (by omega)
            refine ⟨[some (.list (otab told m)), some (.list (tab dn m)), some (.int (i : Int)), some (.int (i : Int)), some (.int (w0 : Int))], (), by simp only [x_bnd, x_bndN, x_var, x_c, x_op2, x_op1, x_tr, x_not, x_and, x_or, x_tan, x_too, x_tno, x_tof, x_kof, x_kso, x_if, x_nil, x_cons, x_lst, x_tup, x_call, x_callP, x_callS, x_sc, x_sl, x_no, x_seq, x_kn, x_kr, x_kb, x_kc, x_nx, x_bk, x_ct, x_set, x_ret, x_sif, x_drop, x_tg, x_gn, x_gtup, x_glist, x_gsn, x_gsc, x_so, x_for, x_lseq, x_ksl, x_kst, x_app, x_kapp, x_six, x_kix, x_aug, x_kaug, x_par, x_kpar, x_par3, x_kpar3, x_lc, x_any, x_yes, x_enum, x_kel, x_ket, x_range1, x_kr1, x_range2, x_kr2, x_fn, x_add, x_sub, x_lt, x_le, x_gt, x_ge, x_eq, x_ne, x_ixl, x_ixt, x_len, x_lent, x_tupl, x_tupt, x_lstl, x_lstt, x_int, x_trb, x_tri, x_trt, x_trl, x_wipe, x_wipe0, x_chain, x_kcht, x_kchf, x_gcd, x_escl, x_kscl, x_self, x_iss, x_maxg, x_ming, x_sortg, x_ord, x_ordn, x_revl, x_revt, bd1, bd0, Bool.and_self, Bool.and_true, Bool.true_and, List.getElem?_cons_zero, List.getElem?_cons_succ, List.set_cons_zero, List.set_cons_succ, List.set_nil, Option.bind_some, if_true, if_false, Bool.false_eq_true, reduceIte, List.length_cons, List.length_nil, Nat.reduceAdd, Nat.reduceSub, Nat.reduceLeDiff, Nat.reduceLT, Nat.zero_add, List.map_cons, List.map_nil, List.replicate_succ, List.replicate_zero, List.cons_append, List.nil_append, List.append_nil, k1, e1, Bool.not_false, optD, k2, e2, k3], some i, _, _, rfl, by omega, w0, ⟨hdn, ht⟩, fun q w hq hc => ?_⟩
            rcases Nat.lt_or_ge q i with z | z
            · have := h3 q w z hc
              omega
            · have : q = i := by omega
              subst this
              have := hc.2
              rw [ht] at this
              have := Option.some.inj this
              omega
          · have k3 : decide ((w0 : Int) < (v : Int)) = false := decide_eq_false (by omega)
            refine ⟨[some (.list (otab told m)), some (.list (tab dn m)), some (.int (p : Int)), some (.int (i : Int)), some (.int (w0 : Int))], (), by simp only [x_bnd, x_bndN, x_var, x_c, x_op2, x_op1, x_tr, x_not, x_and, x_or, x_tan, x_too, x_tno, x_tof, x_kof, x_kso, x_if, x_nil, x_cons, x_lst, x_tup, x_call, x_callP, x_callS, x_sc, x_sl, x_no, x_seq, x_kn, x_kr, x_kb, x_kc, x_nx, x_bk, x_ct, x_set, x_ret, x_sif, x_drop, x_tg, x_gn, x_gtup, x_glist, x_gsn, x_gsc, x_so, x_for, x_lseq, x_ksl, x_kst, x_app, x_kapp, x_six, x_kix, x_aug, x_kaug, x_par, x_kpar, x_par3, x_kpar3, x_lc, x_any, x_yes, x_enum, x_kel, x_ket, x_range1, x_kr1, x_range2, x_kr2, x_fn, x_add, x_sub, x_lt, x_le, x_gt, x_ge, x_eq, x_ne, x_ixl, x_ixt, x_len, x_lent, x_tupl, x_tupt, x_lstl, x_lstt, x_int, x_trb, x_tri, x_trt, x_trl, x_wipe, x_wipe0, x_chain, x_kcht, x_kchf, x_gcd, x_escl, x_kscl, x_self, x_iss, x_maxg, x_ming, x_sortg, x_ord, x_ordn, x_revl, x_revt, bd1, bd0, Bool.and_self, Bool.and_true, Bool.true_and, List.getElem?_cons_zero, List.getElem?_cons_succ, List.set_cons_zero, List.set_cons_succ, List.set_nil, Option.bind_some, if_true, if_false, Bool.false_eq_true, reduceIte, List.length_cons, List.length_nil, Nat.reduceAdd, Nat.reduceSub, Nat.reduceLeDiff, Nat.reduceLT, Nat.zero_add, List.map_cons, List.map_nil, List.replicate_succ, List.replicate_zero, List.cons_append, List.nil_append, List.append_nil, k1, e1, Bool.not_false, optD, k2, e2, k3], some p, _, _, rfl, by omega, v, h2, fun q w hq hc => ?_⟩
            rcases Nat.lt_or_ge q i with z | z
            · exact h3 q w z hc
            · have : q = i := by omega
              subst this
              have := hc.2
              rw [ht] at this
              have := Option.some.inj this
              omega
  refine ⟨b, ?_, by rw [enum_len, otab_len] at hb; exact hb⟩
  unfold m_least_place
  simp only [x_bnd, x_bndN, x_var, x_c, x_op2, x_op1, x_tr, x_not, x_and, x_or, x_tan, x_too, x_tno, x_tof, x_kof, x_kso, x_if, x_nil, x_cons, x_lst, x_tup, x_call, x_callP, x_callS, x_sc, x_sl, x_no, x_seq, x_kn, x_kr, x_kb, x_kc, x_nx, x_bk, x_ct, x_set, x_ret, x_sif, x_drop, x_tg, x_gn, x_gtup, x_glist, x_gsn, x_gsc, x_so, x_for, x_lseq, x_ksl, x_kst, x_app, x_kapp, x_six, x_kix, x_aug, x_kaug, x_par, x_kpar, x_par3, x_kpar3, x_lc, x_any, x_yes, x_enum, x_kel, x_ket, x_range1, x_kr1, x_range2, x_kr2, x_fn, x_add, x_sub, x_lt, x_le, x_gt, x_ge, x_eq, x_ne, x_ixl, x_ixt, x_len, x_lent, x_tupl, x_tupt, x_lstl, x_lstt, x_int, x_trb, x_tri, x_trt, x_trl, x_wipe, x_wipe0, x_chain, x_kcht, x_kchf, x_gcd, x_escl, x_kscl, x_self, x_iss, x_maxg, x_ming, x_sortg, x_ord, x_ordn, x_revl, x_revt, bd1, bd0, Bool.and_self, Bool.and_true, Bool.true_and, List.getElem?_cons_zero, List.getElem?_cons_succ, List.set_cons_zero, List.set_cons_succ, List.set_nil, Option.bind_some, if_true, if_false, Bool.false_eq_true, reduceIte, List.length_cons, List.length_nil, Nat.reduceAdd, Nat.reduceSub, Nat.reduceLeDiff, Nat.reduceLT, Nat.zero_add, List.map_cons, List.map_nil, List.replicate_succ, List.replicate_zero, List.cons_append, List.nil_append, List.append_nil, e]
/-- what stands at the head of a turn -/
structure DJ (row : List Nat) (m : Nat) (told : Nat → Option Nat) (dn : Nat → Bool) : Prop where
  val : ∀ k w, k < m → told k = some w → El row w ∧ w % m = k
  zero : told 0 = some 0
  rel : ∀ r, r < m → dn r = true → ∃ v, told r = some v ∧ ∀ a ∈ row, ∃ w, told ((r + a) % m) = some w ∧ w ≤ v + a
  le : ∀ r q v w, r < m → q < m → dn r = true → dn q = false → told r = some v → told q = some w → v ≤ w
structure Rem (row : List Nat) (m : Nat) (told : Nat → Option Nat) : Prop where
  val : ∀ k w, k < m → told k = some w → El row w ∧ w % m = k
  low : ∀ n, El row n → ∃ w, told (n % m) = some w ∧ w ≤ n
theorem DJ.fin {row : List Nat} {m : Nat} {told : Nat → Option Nat} {dn : Nat → Bool} (h : DJ row m told dn) (hm : 0 < m) (hb : Best told dn m none) : Rem row m told := by
  have key : ∀ n, El row n → dn (n % m) = true ∧ ∃ w, told (n % m) = some w ∧ w ≤ n := fun n e => by
    induction e with
    | zero =>
      rw [Nat.zero_mod]
      refine ⟨?_, 0, h.zero, Nat.le_refl _⟩
      cases hd : dn 0 with
      | true => rfl
      | false => exact absurd ⟨hd, h.zero⟩ (hb 0 0 hm)
    | @step n a ha _ ih =>
      obtain ⟨i1, w, i2, i3⟩ := ih
      have hn : n % m < m := Nat.mod_lt _ hm
      obtain ⟨v, h1, h2⟩ := h.rel (n % m) hn i1
      rw [i2] at h1
      cases h1
      obtain ⟨w', h3, h4⟩ := h2 a ha
      rw [Nat.mod_add_mod] at h3
      refine ⟨?_, w', h3, by omega⟩
      cases hd : dn ((n + a) % m) with
      | true => rfl
      | false => exact absurd ⟨hd, h3⟩ (hb _ w' (Nat.mod_lt _ hm))
  exact ⟨h.val, fun n e => (key n e).2⟩
/-- amid the steps from the place p -/
structure RX (row : List Nat) (m p v : Nat) (told : Nat → Option Nat) (dn : Nat → Bool) (i : Nat) (t : Nat → Option Nat) : Prop where
  val : ∀ k w, k < m → t k = some w → El row w ∧ w % m = k
  here : t p = some v
  keep : ∀ k, k < m → dn k = true → t k = told k
  down : ∀ k w, k < m → told k = some w → ∃ w', t k = some w' ∧ w' ≤ w
  low : ∀ k w, k < m → dn k = false → t k = some w → v ≤ w
  done : ∀ j a, j < i → row[j]? = some a → ∃ w, t ((p + a) % m) = some w ∧ w ≤ v + a
theorem e_remainders (fu : Nat) (row : List Nat) (hp : ∀ a ∈ row, 0 < a) (m : Nat) (hm : 0 < m) (hm2 : m ≤ 100000) (rd : D) (hrd : rd = .tuple (rowD row) ∨ rd = .list (rowD row)) :
    ∃ told, m_remainders fu [some rd, some (.int (m : Int))] () = some (.list (otab told m), ()) ∧ Rem row m told := by
  -- the steps from a place
  have inner : ∀ (told : Nat → Option Nat) (dn : Nat → Bool) (p v : Nat) (x5 x6 : Option D), p < m → dn p = true → told p = some v → (∀ k w, k < m → told k = some w → El row w ∧ w % m = k) → (∀ q w, q < m → dn q = false → told q = some w → v ≤ w) → (∀ r w, r < m → dn r = true → told r = some w → w ≤ v) → (∀ r, r < m → dn r = true → told r ≠ none) →
      ∃ ρ' s', forGo (gN 5) (sSeq (sSet 6 (eOp2 dMod (eOp2 dAdd (eVar 4) (eVar 5)) (eVar 1)))
  (sIf (tOo (tOf (eOp2 dIs (eOp2 dIx (eVar 2) (eVar 6)) (eC .none))) (tOf (eOp2 dLt (eOp2 dAdd (eOp2 dIx (eVar 2) (eVar 4)) (eVar 5)) (eOp2 dIx (eVar 2) (eVar 6)))))
  (sIx 2 (eVar 6) (eOp2 dAdd (eOp2 dIx (eVar 2) (eVar 4)) (eVar 5)))
  sNx)) (rowD row) [some rd, some (.int (m : Int)), some (.list (otab told m)), some (.list (tab dn m)), some (.int (p : Int)), x5, x6] () = some (.nx ρ', s') ∧ ∃ t x5 x6, ρ' = [some rd, some (.int (m : Int)), some (.list (otab t m)), some (.list (tab dn m)), some (.int (p : Int)), x5, x6] ∧ RX row m p v told dn (rowD row).length t := by
    intro told dn p v x5 x6 hpm hdp htp hval hmin hmax hnn
    refine forGo_at (rowD row) (fun i ρ s => ∃ t x5 x6, ρ = [some rd, some (.int (m : Int)), some (.list (otab t m)), some (.list (tab dn m)), some (.int (p : Int)), x5, x6] ∧ RX row m p v told dn i t) ?_ _ _ ⟨told, x5, x6, rfl, hval, htp, fun _ _ _ => rfl, fun k w _ e => ⟨w, e, Nat.le_refl _⟩, hmin, fun j a hj => by omega⟩
    rintro i d hd ρ s ⟨t, x5, x6, rfl, hx⟩
    obtain ⟨a, ha, rfl⟩ := rowD_get hd
    have ham := List.mem_of_getElem? ha
    have ha0 := hp a ham
    refine ⟨_, rfl, ?_⟩
    generalize hg : (p + a) % m = g
    have hgm : g < m := by rw [← hg]; exact Nat.mod_lt _ hm
    have e1 : dMod (.int ((p : Int) + (a : Int))) (.int (m : Int)) = some (.int (g : Int)) := by
      rw [dMod_int (by omega), ← hg]
      congr 2
    have e2 := otab_some (m := m) hpm hx.here
    have hv := hval p v hpm htp
    have hgv : (v + a) % m = g := by rw [Nat.add_mod, hv.2, Nat.add_mod_mod, hg]
    have hEl : El row (v + a) := .step ham hv.1
    have vi : ((v : Int) + (a : Int)) = ((v + a : Nat) : Int) := by omega
    have hix : ixN (otab t m).length (g : Int) = some g := ixN_nat (by rw [otab_len]; exact hgm)
    -- a new number at g
    have put : (dn g = false) → (∀ w, t g = some w → v + a < w) → RX row m p v told dn (i + 1) (fun k => if k = g then some (v + a) else t k) := fun hdg hlt => by
      have hgp : g ≠ p := fun z => by rw [z, hdp] at hdg; cases hdg
      refine ⟨fun k w hk e => ?_, ?_, fun k hk hd => ?_, fun k w hk e => ?_, fun k w hk hd e => ?_, fun j b hj hb => ?_⟩
      · by_cases z : k = g
        · simp only [z, if_true] at e
          cases e
          rw [z]
          exact ⟨hEl, hgv⟩
        · simp only [z, if_false] at e
          exact hx.val k w hk e
      · have hpg : ¬ p = g := fun z => hgp z.symm
        simp only [hpg, if_false]
        exact hx.here
      · have z : k ≠ g := fun z => by rw [z, hdg] at hd; cases hd
        simp only [z, if_false]
        exact hx.keep k hk hd
      · by_cases z : k = g
        · refine ⟨v + a, by simp only [z, if_true], ?_⟩
          obtain ⟨w', q1, q2⟩ := hx.down k w hk e
          rw [z] at q1
          have := hlt w' q1
          omega
        · simp only [z, if_false]
          exact hx.down k w hk e
      · by_cases z : k = g
        · simp only [z, if_true] at e
          cases e
          omega
        · simp only [z, if_false] at e
          exact hx.low k w hk hd e
      · by_cases z : j < i
        · obtain ⟨w, q1, q2⟩ := hx.done j b z hb
          by_cases y : (p + b) % m = g
          · refine ⟨v + a, by simp only [y, if_true], ?_⟩
            rw [y] at q1
            have := hlt w q1
            omega
          · exact ⟨w, by simp only [y, if_false]; exact q1, q2⟩
        · have : j = i := by omega
          subst this
          rw [ha] at hb
          cases hb
          exact ⟨v + a, by simp only [hg, if_true], Nat.le_refl _⟩
    have stay : ∀ w, t g = some w → w ≤ v + a → RX row m p v told dn (i + 1) t := fun w hw hle =>
      ⟨hx.val, hx.here, hx.keep, hx.down, hx.low, fun j b hj hb => by
        by_cases z : j < i
        · exact hx.done j b z hb
        · have : j = i := by omega
          subst this
          rw [ha] at hb
          cases hb
          exact ⟨w, by rw [hg]; exact hw, hle⟩⟩
    cases htg : t g with
    | none =>
      have e3 := otab_none (m := m) hgm htg
      have k1 : dIs .none .none = some (.bool true) := rfl
      have hdg : dn g = false := by
        cases z : dn g with
        | false => rfl
        | true =>
          have := hx.keep g hgm z
          rw [htg] at this
          exact absurd this.symm (hnn g hgm z)
      refine ⟨[some rd, some (.int (m : Int)), some (.list (otab (fun k => if k = g then some (v + a) else t k) m)), some (.list (tab dn m)), some (.int (p : Int)), some (.int (a : Int)), some (.int (g : Int))], (), ?_, _, _, _, rfl, put hdg fun w hw => by rw [htg] at hw; cases hw⟩
      simp only [x_bnd, x_bndN, x_var, x_c, x_op2, x_op1, x_tr, x_not, x_and, x_or, x_tan, x_too, x_tno, x_tof, x_kof, x_kso, x_if, x_nil, x_cons, x_lst, x_tup, x_call, x_callP, x_callS, x_sc, x_sl, x_no, x_seq, x_kn, x_kr, x_kb, x_kc, x_nx, x_bk, x_ct, x_set, x_ret, x_sif, x_drop, x_tg, x_gn, x_gtup, x_glist, x_gsn, x_gsc, x_so, x_for, x_lseq, x_ksl, x_kst, x_app, x_kapp, x_six, x_kix, x_aug, x_kaug, x_par, x_kpar, x_par3, x_kpar3, x_lc, x_any, x_yes, x_enum, x_kel, x_ket, x_range1, x_kr1, x_range2, x_kr2, x_fn, x_add, x_sub, x_lt, x_le, x_gt, x_ge, x_eq, x_ne, x_ixl, x_ixt, x_len, x_lent, x_tupl, x_tupt, x_lstl, x_lstt, x_int, x_trb, x_tri, x_trt, x_trl, x_wipe, x_wipe0, x_chain, x_kcht, x_kchf, x_gcd, x_escl, x_kscl, x_self, x_iss, x_maxg, x_ming, x_sortg, x_ord, x_ordn, x_revl, x_revt, bd1, bd0, Bool.and_self, Bool.and_true, Bool.true_and, List.getElem?_cons_zero, List.getElem?_cons_succ, List.set_cons_zero, List.set_cons_succ, List.set_nil, Option.bind_some, if_true, if_false, Bool.false_eq_true, reduceIte, List.length_cons, List.length_nil, Nat.reduceAdd, Nat.reduceSub, Nat.reduceLeDiff, Nat.reduceLT, Nat.zero_add, List.map_cons, List.map_nil, List.replicate_succ, List.replicate_zero, List.cons_append, List.nil_append, List.append_nil, e1, e3, k1, e2, vi, hix, otab_set]
    | some w =>
      have e3 := otab_some (m := m) hgm htg
      have k1 : dIs (.int (w : Int)) .none = some (.bool false) := rfl
      by_cases hlt : v + a < w
      · have hdg : dn g = false := by
          cases z : dn g with
          | false => rfl
          | true =>
            have := hx.keep g hgm z
            rw [htg] at this
            have := hmax g w hgm z this.symm
            omega
        have k2 : decide (((v + a : Nat) : Int) < (w : Int)) = true := decide_eq_true (by omega)
        refine ⟨[some rd, some (.int (m : Int)), some (.list (otab (fun k => if k = g then some (v + a) else t k) m)), some (.list (tab dn m)), some (.int (p : Int)), some (.int (a : Int)), some (.int (g : Int))], (), ?_, _, _, _, rfl, put hdg fun w' hw => by rw [htg] at hw; cases hw; exact hlt⟩
        simp only [x_bnd, x_bndN, x_var, x_c, x_op2, x_op1, x_tr, x_not, x_and, x_or, x_tan, x_too, x_tno, x_tof, x_kof, x_kso, x_if, x_nil, x_cons, x_lst, x_tup, x_call, x_callP, x_callS, x_sc, x_sl, x_no, x_seq, x_kn, x_kr, x_kb, x_kc, x_nx, x_bk, x_ct, x_set, x_ret, x_sif, x_drop, x_tg, x_gn, x_gtup, x_glist, x_gsn, x_gsc, x_so, x_for, x_lseq, x_ksl, x_kst, x_app, x_kapp, x_six, x_kix, x_aug, x_kaug, x_par, x_kpar, x_par3, x_kpar3, x_lc, x_any, x_yes, x_enum, x_kel, x_ket, x_range1, x_kr1, x_range2, x_kr2, x_fn, x_add, x_sub, x_lt, x_le, x_gt, x_ge, x_eq, x_ne, x_ixl, x_ixt, x_len, x_lent, x_tupl, x_tupt, x_lstl, x_lstt, x_int, x_trb, x_tri, x_trt, x_trl, x_wipe, x_wipe0, x_chain, x_kcht, x_kchf, x_gcd, x_escl, x_kscl, x_self, x_iss, x_maxg, x_ming, x_sortg, x_ord, x_ordn, x_revl, x_revt, bd1, bd0, Bool.and_self, Bool.and_true, Bool.true_and, List.getElem?_cons_zero, List.getElem?_cons_succ, List.set_cons_zero, List.set_cons_succ, List.set_nil, Option.bind_some, if_true, if_false, Bool.false_eq_true, reduceIte, List.length_cons, List.length_nil, Nat.reduceAdd, Nat.reduceSub, Nat.reduceLeDiff, Nat.reduceLT, Nat.zero_add, List.map_cons, List.map_nil, List.replicate_succ, List.replicate_zero, List.cons_append, List.nil_append, List.append_nil, e1, e3, k1, e2, vi, k2, hix, otab_set]
      · have k2 : decide (((v + a : Nat) : Int) < (w : Int)) = false := decide_eq_false (by omega)
        refine ⟨[some rd, some (.int (m : Int)), some (.list (otab t m)), some (.list (tab dn m)), some (.int (p : Int)), some (.int (a : Int)), some (.int (g : Int))], (), ?_, _, _, _, rfl, stay w htg (by omega)⟩
        simp only [x_bnd, x_bndN, x_var, x_c, x_op2, x_op1, x_tr, x_not, x_and, x_or, x_tan, x_too, x_tno, x_tof, x_kof, x_kso, x_if, x_nil, x_cons, x_lst, x_tup, x_call, x_callP, x_callS, x_sc, x_sl, x_no, x_seq, x_kn, x_kr, x_kb, x_kc, x_nx, x_bk, x_ct, x_set, x_ret, x_sif, x_drop, x_tg, x_gn, x_gtup, x_glist, x_gsn, x_gsc, x_so, x_for, x_lseq, x_ksl, x_kst, x_app, x_kapp, x_six, x_kix, x_aug, x_kaug, x_par, x_kpar, x_par3, x_kpar3, x_lc, x_any, x_yes, x_enum, x_kel, x_ket, x_range1, x_kr1, x_range2, x_kr2, x_fn, x_add, x_sub, x_lt, x_le, x_gt, x_ge, x_eq, x_ne, x_ixl, x_ixt, x_len, x_lent, x_tupl, x_tupt, x_lstl, x_lstt, x_int, x_trb, x_tri, x_trt, x_trl, x_wipe, x_wipe0, x_chain, x_kcht, x_kchf, x_gcd, x_escl, x_kscl, x_self, x_iss, x_maxg, x_ming, x_sortg, x_ord, x_ordn, x_revl, x_revt, bd1, bd0, Bool.and_self, Bool.and_true, Bool.true_and, List.getElem?_cons_zero, List.getElem?_cons_succ, List.set_cons_zero, List.set_cons_succ, List.set_nil, Option.bind_some, if_true, if_false, Bool.false_eq_true, reduceIte, List.length_cons, List.length_nil, Nat.reduceAdd, Nat.reduceSub, Nat.reduceLeDiff, Nat.reduceLT, Nat.zero_add, List.map_cons, List.map_nil, List.replicate_succ, List.replicate_zero, List.cons_append, List.nil_append, List.append_nil, e1, e3, k1, e2, vi, k2]
  have hsq : kSq rd () = some (rowD row, ()) := by
    rcases hrd with e | e <;> subst e <;> rfl
  -- the turns
  have turns := whI_by (S := Unit) (t := tOf (eOp2 dIsn (eVar 4) (eC .none))) (body := (sSeq (sIx 3 (eVar 4) (eC (.bool true)))
  (sSeq (sFor (lSeq (eVar 0)) (gN 5)
  (sSeq (sSet 6 (eOp2 dMod (eOp2 dAdd (eVar 4) (eVar 5)) (eVar 1)))
  (sIf (tOo (tOf (eOp2 dIs (eOp2 dIx (eVar 2) (eVar 6)) (eC .none))) (tOf (eOp2 dLt (eOp2 dAdd (eOp2 dIx (eVar 2) (eVar 4)) (eVar 5)) (eOp2 dIx (eVar 2) (eVar 6)))))
  (sIx 2 (eVar 6) (eOp2 dAdd (eOp2 dIx (eVar 2) (eVar 4)) (eVar 5)))
  sNx)))
  (sSet 4 (eSc (eSc (eCallP (m_least_place fu) (lCons (eVar 2) (lCons (eVar 3) lNil)))))))))
    (fun ρ s => ∃ told dn b x5 x6, ρ = [some rd, some (.int (m : Int)), some (.list (otab told m)), some (.list (tab dn m)), some (optD b), x5, x6] ∧ DJ row m told dn ∧ Best told dn m b)
    (fun ρ s => match ρ with
      | [_, _, _, some (.list ds), _, _, _] => (ds.filter fun d => match d with | .bool false => true | _ => false).length
      | _ => 0)
    (fun ρ s => ∃ told x3 x4 x5 x6, ρ = [some rd, some (.int (m : Int)), some (.list (otab told m)), x3, x4, x5, x6] ∧ Rem row m told) ?_
  · -- the beginning
    have ix0 : ∀ n : Nat, 0 < n → ixN n 0 = some 0 := fun n hn => ixN_nat (n := 0) hn
    have b1 : dRep (.list [.none]) (.int (m : Int)) = some (.list (List.replicate m .none)) := by
      rw [dRep_list (by simp; omega) (by omega), rep_one]
    have b2 : dRep (.list [.bool false]) (.int (m : Int)) = some (.list (List.replicate m (.bool false))) := by
      rw [dRep_list (by simp; omega) (by omega), rep_one]
    have c1 : (List.replicate m PyData.none).set 0 (.int 0) = otab (fun k => if k = 0 then some 0 else none) m := by
      refine List.ext_getElem? fun i => ?_
      by_cases hi : i < m
      · unfold otab
        rw [List.getElem?_map, List.getElem?_range hi]
        by_cases e : i = 0
        · subst e
          rw [List.getElem?_set_self (by rw [List.length_replicate]; exact hi)]
          rfl
        · rw [List.getElem?_set_ne (by omega), List.getElem?_replicate, if_pos hi]
          simp [e]
      · rw [List.getElem?_eq_none (by rw [List.length_set, List.length_replicate]; omega), List.getElem?_eq_none (by rw [otab_len]; omega)]
    have c2 : List.replicate m (PyData.bool false) = tab (fun _ => false) m := by
      refine List.ext_getElem? fun i => ?_
      by_cases hi : i < m
      · rw [tab_get hi, List.getElem?_replicate, if_pos hi]
      · rw [List.getElem?_eq_none (by rw [List.length_replicate]; omega), List.getElem?_eq_none (by rw [tab_length]; omega)]
    obtain ⟨ρ', s', e, told, x3, x4, x5, x6, rfl, hr⟩ := turns [some rd, some (.int (m : Int)), some (.list (otab (fun k => if k = 0 then some 0 else none) m)), some (.list (tab (fun _ => false) m)), some (.int 0), none, none] () ⟨_, _, some 0, none, none, rfl,
      ⟨(fun k w hk e => by
        by_cases z : k = 0
        · simp only [z, if_true] at e
          cases e
          exact ⟨.zero, by rw [z]; exact Nat.zero_mod m⟩
        · simp only [z, if_false] at e
          cases e), rfl, fun r _ h => (by cases h), fun r q v w _ _ h => (by cases h)⟩, hm, 0, ⟨rfl, rfl⟩, fun q w _ _ => Nat.zero_le _⟩
    refine ⟨told, ?_, hr⟩
    have z1 : (1 : Nat) ≤ sizeLine := szK (by omega)
    unfold m_remainders
    simp only [x_bnd, x_bndN, x_var, x_c, x_op2, x_op1, x_tr, x_not, x_and, x_or, x_tan, x_too, x_tno, x_tof, x_kof, x_kso, x_if, x_nil, x_cons, x_lst, x_tup, x_call, x_callP, x_callS, x_sc, x_sl, x_no, x_seq, x_kn, x_kr, x_kb, x_kc, x_nx, x_bk, x_ct, x_set, x_ret, x_sif, x_drop, x_tg, x_gn, x_gtup, x_glist, x_gsn, x_gsc, x_so, x_for, x_lseq, x_ksl, x_kst, x_app, x_kapp, x_six, x_kix, x_aug, x_kaug, x_par, x_kpar, x_par3, x_kpar3, x_lc, x_any, x_yes, x_enum, x_kel, x_ket, x_range1, x_kr1, x_range2, x_kr2, x_fn, x_add, x_sub, x_lt, x_le, x_gt, x_ge, x_eq, x_ne, x_ixl, x_ixt, x_len, x_lent, x_tupl, x_tupt, x_lstl, x_lstt, x_int, x_trb, x_tri, x_trt, x_trl, x_wipe, x_wipe0, x_chain, x_kcht, x_kchf, x_gcd, x_escl, x_kscl, x_self, x_iss, x_maxg, x_ming, x_sortg, x_ord, x_ordn, x_revl, x_revt, bd1, bd0, Bool.and_self, Bool.and_true, Bool.true_and, List.getElem?_cons_zero, List.getElem?_cons_succ, List.set_cons_zero, List.set_cons_succ, List.set_nil, Option.bind_some, if_true, if_false, Bool.false_eq_true, reduceIte, List.length_cons, List.length_nil, Nat.reduceAdd, Nat.reduceSub, Nat.reduceLeDiff, Nat.reduceLT, Nat.zero_add, List.map_cons, List.map_nil, List.replicate_succ, List.replicate_zero, List.cons_append, List.nil_append, List.append_nil, z1, b1, List.length_replicate, ix0 m hm, c1, b2, c2, e]
  · -- a turn
    rintro ρ s ⟨told, dn, b, x5, x6, rfl, hj, hb⟩
    cases b with
    | none =>
      have k1 : dIsn .none .none = some (.bool false) := rfl
      exact .inl ⟨(), by simp only [x_bnd, x_bndN, x_var, x_c, x_op2, x_op1, x_tr, x_not, x_and, x_or, x_tan, x_too, x_tno, x_tof, x_kof, x_kso, x_if, x_nil, x_cons, x_lst, x_tup, x_call, x_callP, x_callS, x_sc, x_sl, x_no, x_seq, x_kn, x_kr, x_kb, x_kc, x_nx, x_bk, x_ct, x_set, x_ret, x_sif, x_drop, x_tg, x_gn, x_gtup, x_glist, x_gsn, x_gsc, x_so, x_for, x_lseq, x_ksl, x_kst, x_app, x_kapp, x_six, x_kix, x_aug, x_kaug, x_par, x_kpar, x_par3, x_kpar3, x_lc, x_any, x_yes, x_enum, x_kel, x_ket, x_range1, x_kr1, x_range2, x_kr2, x_fn, x_add, x_sub, x_lt, x_le, x_gt, x_ge, x_eq, x_ne, x_ixl, x_ixt, x_len, x_lent, x_tupl, x_tupt, x_lstl, x_lstt, x_int, x_trb, x_tri, x_trt, x_trl, x_wipe, x_wipe0, x_chain, x_kcht, x_kchf, x_gcd, x_escl, x_kscl, x_self, x_iss, x_maxg, x_ming, x_sortg, x_ord, x_ordn, x_revl, x_revt, bd1, bd0, Bool.and_self, Bool.and_true, Bool.true_and, List.getElem?_cons_zero, List.getElem?_cons_succ, List.set_cons_zero, List.set_cons_succ, List.set_nil, Option.bind_some, if_true, if_false, Bool.false_eq_true, reduceIte, List.length_cons, List.length_nil, Nat.reduceAdd, Nat.reduceSub, Nat.reduceLeDiff, Nat.reduceLT, Nat.zero_add, List.map_cons, List.map_nil, List.replicate_succ, List.replicate_zero, List.cons_append, List.nil_append, List.append_nil, optD, k1], told, _, _, _, _, rfl, hj.fin hm hb⟩
    | some p =>
      have k1 : dIsn (.int (p : Int)) .none = some (.bool true) := rfl
      obtain ⟨hpm, v, ⟨hdp, htp⟩, hmin⟩ := hb
      have hix : ixN (tab dn m).length (p : Int) = some p := ixN_nat (by rw [tab_length]; exact hpm)
      obtain ⟨ρ', s', e, t, y5, y6, rfl, hx⟩ := inner told (fun k => if k = p then true else dn k) p v x5 x6 hpm (by simp) htp hj.val (fun q w hq hd e => by
          by_cases z : q = p
          · simp only [z, if_true] at hd
            cases hd
          · simp only [z, if_false] at hd
            exact hmin q w hq ⟨hd, e⟩) (fun r w hr hd e => by
          by_cases z : r = p
          · rw [z, htp] at e
            cases e
            exact Nat.le_refl _
          · simp only [z, if_false] at hd
            exact hj.le r p w v hr hpm hd hdp e htp) (fun r hr hd => by
          by_cases z : r = p
          · rw [z, htp]; exact Option.some_ne_none _
          · simp only [z, if_false] at hd
            obtain ⟨w, e, _⟩ := hj.rel r hr hd
            rw [e]; exact Option.some_ne_none _)
      obtain ⟨b, eb, hb⟩ := e_least_place fu t (fun k => if k = p then true else dn k) m
      have sc1 : isSc (optD b) = true := by cases b <;> rfl
      rw [rowD_len] at hx
      refine .inr ⟨(), [some rd, some (.int (m : Int)), some (.list (otab t m)), some (.list (tab (fun k => if k = p then true else dn k) m)), some (optD b), y5, y6], (), by simp only [x_bnd, x_bndN, x_var, x_c, x_op2, x_op1, x_tr, x_not, x_and, x_or, x_tan, x_too, x_tno, x_tof, x_kof, x_kso, x_if, x_nil, x_cons, x_lst, x_tup, x_call, x_callP, x_callS, x_sc, x_sl, x_no, x_seq, x_kn, x_kr, x_kb, x_kc, x_nx, x_bk, x_ct, x_set, x_ret, x_sif, x_drop, x_tg, x_gn, x_gtup, x_glist, x_gsn, x_gsc, x_so, x_for, x_lseq, x_ksl, x_kst, x_app, x_kapp, x_six, x_kix, x_aug, x_kaug, x_par, x_kpar, x_par3, x_kpar3, x_lc, x_any, x_yes, x_enum, x_kel, x_ket, x_range1, x_kr1, x_range2, x_kr2, x_fn, x_add, x_sub, x_lt, x_le, x_gt, x_ge, x_eq, x_ne, x_ixl, x_ixt, x_len, x_lent, x_tupl, x_tupt, x_lstl, x_lstt, x_int, x_trb, x_tri, x_trt, x_trl, x_wipe, x_wipe0, x_chain, x_kcht, x_kchf, x_gcd, x_escl, x_kscl, x_self, x_iss, x_maxg, x_ming, x_sortg, x_ord, x_ordn, x_revl, x_revt, bd1, bd0, Bool.and_self, Bool.and_true, Bool.true_and, List.getElem?_cons_zero, List.getElem?_cons_succ, List.set_cons_zero, List.set_cons_succ, List.set_nil, Option.bind_some, if_true, if_false, Bool.false_eq_true, reduceIte, List.length_cons, List.length_nil, Nat.reduceAdd, Nat.reduceSub, Nat.reduceLeDiff, Nat.reduceLT, Nat.zero_add, List.map_cons, List.map_nil, List.replicate_succ, List.replicate_zero, List.cons_append, List.nil_append, List.append_nil, optD, k1], ?_, ⟨t, _, b, y5, y6, rfl, ⟨hx.val, ?_, fun r hr hd => ?_, fun r q u w hr hq hdr hdq er eq => ?_⟩, hb⟩, ?_⟩
      · have opt : optD (some p) = .int (p : Int) := rfl
        simp only [x_bnd, x_bndN, x_var, x_c, x_op2, x_op1, x_tr, x_not, x_and, x_or, x_tan, x_too, x_tno, x_tof, x_kof, x_kso, x_if, x_nil, x_cons, x_lst, x_tup, x_call, x_callP, x_callS, x_sc, x_sl, x_no, x_seq, x_kn, x_kr, x_kb, x_kc, x_nx, x_bk, x_ct, x_set, x_ret, x_sif, x_drop, x_tg, x_gn, x_gtup, x_glist, x_gsn, x_gsc, x_so, x_for, x_lseq, x_ksl, x_kst, x_app, x_kapp, x_six, x_kix, x_aug, x_kaug, x_par, x_kpar, x_par3, x_kpar3, x_lc, x_any, x_yes, x_enum, x_kel, x_ket, x_range1, x_kr1, x_range2, x_kr2, x_fn, x_add, x_sub, x_lt, x_le, x_gt, x_ge, x_eq, x_ne, x_ixl, x_ixt, x_len, x_lent, x_tupl, x_tupt, x_lstl, x_lstt, x_int, x_trb, x_tri, x_trt, x_trl, x_wipe, x_wipe0, x_chain, x_kcht, x_kchf, x_gcd, x_escl, x_kscl, x_self, x_iss, x_maxg, x_ming, x_sortg, x_ord, x_ordn, x_revl, x_revt, bd1, bd0, Bool.and_self, Bool.and_true, Bool.true_and, List.getElem?_cons_zero, List.getElem?_cons_succ, List.set_cons_zero, List.set_cons_succ, List.set_nil, Option.bind_some, if_true, if_false, Bool.false_eq_true, reduceIte, List.length_cons, List.length_nil, Nat.reduceAdd, Nat.reduceSub, Nat.reduceLeDiff, Nat.reduceLT, Nat.zero_add, List.map_cons, List.map_nil, List.replicate_succ, List.replicate_zero, List.cons_append, List.nil_append, List.append_nil, opt, hix, tab_set, hsq, e, eb, sc1]
      · obtain ⟨w, e1, e2⟩ := hx.down 0 0 hm hj.zero
        have : w = 0 := by omega
        rw [this] at e1
        exact e1
      · by_cases z : r = p
        · refine ⟨v, by rw [z]; exact hx.here, fun a ha => ?_⟩
          obtain ⟨j, hjl, ej⟩ := List.getElem_of_mem ha
          rw [z]
          exact hx.done j a hjl (by rw [List.getElem?_eq_getElem hjl, ej])
        · simp only [z, if_false] at hd
          obtain ⟨u, e1, e2⟩ := hj.rel r hr hd
          refine ⟨u, by rw [hx.keep r hr (by simp only [z, if_false]; exact hd)]; exact e1, fun a ha => ?_⟩
          obtain ⟨w, e3, e4⟩ := e2 a ha
          obtain ⟨w', e5, e6⟩ := hx.down _ w (Nat.mod_lt _ hm) e3
          exact ⟨w', e5, by omega⟩
      · have h1 := hx.low q w hq hdq eq
        rw [hx.keep r hr hdr] at er
        by_cases z : r = p
        · rw [z, htp] at er
          cases er
          exact h1
        · simp only [z, if_false] at hdr
          have := hj.le r p u v hr hpm hdr hdp er htp
          omega
      · -- fewer places are left
        show ((tab (fun k => if k = p then true else dn k) m).filter fun d => match d with | .bool false => true | _ => false).length < ((tab dn m).filter fun d => match d with | .bool false => true | _ => false).length
        have cnt : ∀ q : Nat → Bool, ((tab q m).filter fun d => match d with | .bool false => true | _ => false).length = ((List.range m).filter fun k => !q k).length := fun q => by
          unfold tab
          rw [List.filter_map, List.length_map]
          congr 1
          refine List.filter_congr fun k _ => ?_
          show (match PyData.bool (q k) with | .bool false => true | _ => false) = !q k
          cases q k <;> rfl
        rw [cnt, cnt]
        have split : ∀ n, p < n → ((List.range n).filter fun k => !(if k = p then true else dn k)).length < ((List.range n).filter fun k => !dn k).length := by
          intro n
          induction n with
          | zero => exact fun h => by omega
          | succ n ih =>
            intro h
            rw [List.range_succ, List.filter_append, List.filter_append, List.length_append, List.length_append]
            by_cases z : p < n
            · have h1 := ih z
              have hnp : ¬ n = p := by omega
              have h2 : (List.filter (fun k => !(if k = p then true else dn k)) [n]).length = (List.filter (fun k => !dn k) [n]).length := by
                rw [List.filter_cons, List.filter_cons]
                simp only [hnp, if_false, List.filter_nil]
              omega
            · have z : n = p := by omega
              subst z
              have h1 : ((List.range n).filter fun k => !(if k = n then true else dn k)) = (List.range n).filter fun k => !dn k := List.filter_congr fun k hk => by
                have := List.mem_range.mp hk
                have hkn : ¬ k = n := by omega
                simp only [hkn, if_false]
              rw [h1]
              simp [hdp]
        exact split m hpm
/-! the rest of remainders: for rows without a common divisor (beside L_frob) -/
theorem rem_ap {R : List Nat} {m : Nat} {told : Nat → Option Nat} (hm : 0 < m) (hme : El R m) (hg : gcdL R = 1) (h : Rem R m told) : ∃ ap, (∀ k, k < m → told k = some (ap k)) ∧ Ap R m ap := by
  have tot : ∀ k, k < m → ∃ w, told k = some w := fun k hk => by
    obtain ⟨n, e1, e2⟩ := rch_all hm hg k
    obtain ⟨w, e3, _⟩ := h.low n e1
    rw [e2, Nat.mod_eq_of_lt hk] at e3
    exact ⟨w, e3⟩
  have sp : ∀ k, k < m → told k = some ((told k).getD 0) := fun k hk => by
    obtain ⟨w, e⟩ := tot k hk
    rw [e]; rfl
  refine ⟨fun k => (told k).getD 0, sp, hm, fun k hk => h.val k _ hk (sp k hk), fun n => ⟨fun e => ?_, fun e => ?_⟩⟩
  · obtain ⟨w, e1, e2⟩ := h.low n e
    show (told (n % m)).getD 0 ≤ n
    rw [e1]
    exact e2
  · have hk := Nat.mod_lt n hm
    obtain ⟨e1, e2⟩ := h.val _ _ hk (sp _ hk)
    have e : (told (n % m)).getD 0 ≤ n := e
    -- n is that and some m
    have : m ∣ n - (told (n % m)).getD 0 := dvd_sub_modF e2 e
    obtain ⟨q, hq⟩ := this
    have : n = (told (n % m)).getD 0 + q * m := by rw [Nat.mul_comm q m]; omega
    rw [this]
    exact e1.add (hme.mul q)
theorem otab_ap {told : Nat → Option Nat} {m : Nat} {ap : Nat → Nat} (h : ∀ k, k < m → told k = some (ap k)) : otab told m = rowD (apL ap m) := by
  unfold otab apL rowD
  rw [List.map_map]
  refine List.map_congr_left fun k hk => ?_
  rw [h k (List.mem_range.mp hk)]
  rfl
/-! the gaps up to a number -/
noncomputable def gapsL (row : List Nat) (most : Nat) : List Nat := ((List.range most).filter fun i => !elb row (i + 1)).map (· + 1)
theorem gapsL_mem {row : List Nat} {most g : Nat} : g ∈ gapsL row most ↔ 1 ≤ g ∧ g ≤ most ∧ ¬ El row g := by
  unfold gapsL
  rw [List.mem_map]
  constructor
  · rintro ⟨i, hi, rfl⟩
    obtain ⟨h1, h2⟩ := List.mem_filter.mp hi
    have := List.mem_range.mp h1
    simp only [Bool.not_eq_true', elb_false] at h2
    exact ⟨by omega, by omega, h2⟩
  · rintro ⟨h1, h2, h3⟩
    refine ⟨g - 1, List.mem_filter.mpr ⟨List.mem_range.mpr (by omega), ?_⟩, by omega⟩
    rw [show g - 1 + 1 = g by omega]
    simp only [Bool.not_eq_true', elb_false]
    exact h3
theorem gapsL_asc {row : List Nat} {most : Nat} : (gapsL row most).Pairwise (· < ·) := List.pairwise_map.mpr ((range_asc _ _).imp fun h => by omega)
theorem gapsL_len {row : List Nat} {most : Nat} : (gapsL row most).length ≤ most := by
  unfold gapsL
  rw [List.length_map]
  have := List.length_filter_le (fun i => !elb row (i + 1)) (List.range most)
  rwa [List.length_range] at this
theorem asc_eq : ∀ {l l' : List Nat}, l.Pairwise (· < ·) → l'.Pairwise (· < ·) → (∀ x, x ∈ l ↔ x ∈ l') → l = l'
  | [], [], _, _, _ => rfl
  | [], b :: l', _, _, h => absurd ((h b).mpr List.mem_cons_self) (by simp)
  | a :: l, [], _, _, h => absurd ((h a).mp List.mem_cons_self) (by simp)
  | a :: l, b :: l', h1, h2, h => by
    obtain ⟨p1, q1⟩ := List.pairwise_cons.mp h1
    obtain ⟨p2, q2⟩ := List.pairwise_cons.mp h2
    have e : a = b := by
      rcases List.mem_cons.mp ((h a).mp List.mem_cons_self) with z | z
      · exact z
      · rcases List.mem_cons.mp ((h b).mpr List.mem_cons_self) with y | y
        · exact y.symm
        · have := p2 a z
          have := p1 b y
          omega
    subst e
    congr 1
    refine asc_eq q1 q2 fun x => ⟨fun hx => ?_, fun hx => ?_⟩
    · rcases List.mem_cons.mp ((h x).mp (List.mem_cons_of_mem _ hx)) with z | z
      · have := p1 x hx
        omega
      · exact z
    · rcases List.mem_cons.mp ((h x).mpr (List.mem_cons_of_mem _ hx)) with z | z
      · have := p2 x hx
        omega
      · exact z
theorem gapsL_eq {R R' : List Nat} {M N : Nat} (e : ∀ n, El R n ↔ El R' n) (h : ∀ n, ¬ El R n → n ≤ M) (h' : ∀ n, ¬ El R n → n ≤ N) : gapsL R M = gapsL R' N :=
  asc_eq gapsL_asc gapsL_asc fun x => by
    rw [gapsL_mem, gapsL_mem, e x]
    constructor
    · rintro ⟨h1, h2, h3⟩
      exact ⟨h1, h' x (fun z => h3 ((e x).mp z)), h3⟩
    · rintro ⟨h1, h2, h3⟩
      exact ⟨h1, h x (fun z => h3 ((e x).mp z)), h3⟩
/-- the comprehension that tells gaps by a table -/
theorem lc_gaps {S : Type} {ρ : Slots} {s : S} {i v : Nat} {row : List Nat} {most m : Nat} (hi : ρ[i]? = some (some (.list (tab (elb row) m)))) (hiv : i ≠ v) (hv : v < ρ.length) (hm : most < m) :
    lcGo (gN v) (tNo (tTr (eOp2 dIx (eVar i) (eVar v)))) (eVar v) ρ (rangeD 1 most) s = some (rowD (gapsL row most), s) := by
  have e0 : rangeD 1 most = (List.range most).map fun i : Nat => PyData.int ((i + 1 : Nat) : Int) := by
    unfold rangeD
    exact List.map_congr_left fun k _ => by
      congr 1
      omega
  rw [e0]
  refine (lcGo_map _ (fun i => !elb row (i + 1)) (fun i : Nat => .int ((i + 1 : Nat) : Int)) fun k hk => ⟨_, rfl, ?_⟩).trans ?_
  · have hk := List.mem_range.mp hk
    have g1 : (ρ.set v (some (.int ((k + 1 : Nat) : Int))))[i]? = some (some (.list (tab (elb row) m))) := by rw [List.getElem?_set_ne (fun z => hiv z.symm)]; exact hi
    have g2 : (ρ.set v (some (.int ((k + 1 : Nat) : Int))))[v]? = some (some (.int ((k + 1 : Nat) : Int))) := List.getElem?_set_self hv
    have g3 := atI_tab (p := elb row) (m := m) (n := k + 1) (by omega)
    simp only [x_bnd, x_bndN, x_var, x_c, x_op2, x_op1, x_tr, x_not, x_and, x_or, x_tan, x_too, x_tno, x_tof, x_kof, x_kso, x_if, x_nil, x_cons, x_lst, x_tup, x_call, x_callP, x_callS, x_sc, x_sl, x_no, x_seq, x_kn, x_kr, x_kb, x_kc, x_nx, x_bk, x_ct, x_set, x_ret, x_sif, x_drop, x_tg, x_gn, x_gtup, x_glist, x_gsn, x_gsc, x_so, x_for, x_lseq, x_ksl, x_kst, x_app, x_kapp, x_six, x_kix, x_aug, x_kaug, x_par, x_kpar, x_par3, x_kpar3, x_lc, x_any, x_yes, x_enum, x_kel, x_ket, x_range1, x_kr1, x_range2, x_kr2, x_fn, x_add, x_sub, x_lt, x_le, x_gt, x_ge, x_eq, x_ne, x_ixl, x_ixt, x_len, x_lent, x_tupl, x_tupt, x_lstl, x_lstt, x_int, x_trb, x_tri, x_trt, x_trl, x_wipe, x_wipe0, x_chain, x_kcht, x_kchf, x_gcd, x_escl, x_kscl, x_self, x_iss, x_maxg, x_ming, x_sortg, x_ord, x_ordn, x_revl, x_revt, bd1, bd0, Bool.and_self, Bool.and_true, Bool.true_and, List.getElem?_cons_zero, List.getElem?_cons_succ, List.set_cons_zero, List.set_cons_succ, List.set_nil, Option.bind_some, if_true, if_false, Bool.false_eq_true, reduceIte, List.length_cons, List.length_nil, Nat.reduceAdd, Nat.reduceSub, Nat.reduceLeDiff, Nat.reduceLT, Nat.zero_add, List.map_cons, List.map_nil, List.replicate_succ, List.replicate_zero, List.cons_append, List.nil_append, List.append_nil, g1, g2, g3]
    exact ⟨trivial, fun _ => trivial⟩
  · unfold gapsL rowD
    rw [List.map_map]
    rfl
/-! greatest_gap, gaps (the program's) -/
theorem dIx_head {row : List Nat} {a : Nat} (h : row[0]? = some a) : atI (rowD row) 0 = some (.int (a : Int)) := atI_row (n := 0) h
/-- a row of generators: its first number m, the least elements, the greatest one M -/
structure Sg (R : List Nat) (m M : Nat) (ap : Nat → Nat) : Prop where
  pos : ∀ a ∈ R, 0 < a
  head : R[0]? = some m
  small : ∀ a ∈ R, a ≤ 1000
  least : Ap R m ap
  mem : M ∈ apL ap m
  max : ∀ a ∈ apL ap m, a ≤ M
theorem Sg.m0 {R : List Nat} {m M : Nat} {ap : Nat → Nat} (h : Sg R m M ap) : 0 < m ∧ m ≤ 1000 := ⟨h.pos _ (List.mem_of_getElem? h.head), h.small _ (List.mem_of_getElem? h.head)⟩
theorem Sg.M_le {R : List Nat} {m M : Nat} {ap : Nat → Nat} (h : Sg R m M ap) {B : Nat} (hB : ∀ a ∈ R, a ≤ B) : M ≤ (m - 1) * B := by
  obtain ⟨k, hk, e⟩ := List.mem_map.mp h.mem
  rw [← e]
  exact h.least.bound h.pos hB (List.mem_range.mp hk)
theorem sg_of {R : List Nat} (hp : ∀ a ∈ R, 0 < a) (hs : ∀ a ∈ R, a ≤ 1000) (hne : R ≠ []) (hg : gcdL R = 1) (fu : Nat) (rd : D) (hrd : rd = .tuple (rowD R) ∨ rd = .list (rowD R)) :
    ∃ m M ap, Sg R m M ap ∧ m_remainders fu [some rd, some (.int (m : Int))] () = some (.list (rowD (apL ap m)), ()) ∧ gMax [.list (rowD (apL ap m))] = some (.int (M : Int)) := by
  obtain ⟨m, r, rfl⟩ : ∃ m r, R = m :: r := by
    cases R with
    | nil => exact absurd rfl hne
    | cons m r => exact ⟨m, r, rfl⟩
  have hm := hp m List.mem_cons_self
  have hm2 := hs m List.mem_cons_self
  obtain ⟨told, e, hr⟩ := e_remainders fu (m :: r) hp m hm (by omega) rd hrd
  obtain ⟨ap, e2, ha⟩ := rem_ap hm (El.mem List.mem_cons_self) hg hr
  rw [otab_ap e2] at e
  have hne : apL ap m ≠ [] := by
    unfold apL
    intro z
    have := congrArg List.length z
    rw [List.length_map, List.length_range] at this
    simp at this
    omega
  obtain ⟨M, e3, h1, h2⟩ := gMax_row (apL ap m) hne
  exact ⟨m, M, ap, ⟨hp, rfl, hs, ha, h1, h2⟩, e, e3⟩
theorem e_greatest_gap (fu : Nat) {R : List Nat} {m M : Nat} {ap : Nat → Nat} (h : Sg R m M ap) (rd : D) (hrd : rd = .tuple (rowD R) ∨ rd = .list (rowD R)) (er : m_remainders fu [some rd, some (.int (m : Int))] () = some (.list (rowD (apL ap m)), ()))
    (em : gMax [.list (rowD (apL ap m))] = some (.int (M : Int))) : m_greatest_gap fu [some rd] () = some (.int ((M : Int) - (m : Int)), ()) := by
  have e0 : dIx rd (.int 0) = some (.int (m : Int)) := by
    rcases hrd with e | e <;> subst e <;> exact dIx_head h.head
  unfold m_greatest_gap
  simp only [x_bnd, x_bndN, x_var, x_c, x_op2, x_op1, x_tr, x_not, x_and, x_or, x_tan, x_too, x_tno, x_tof, x_kof, x_kso, x_if, x_nil, x_cons, x_lst, x_tup, x_call, x_callP, x_callS, x_sc, x_sl, x_no, x_seq, x_kn, x_kr, x_kb, x_kc, x_nx, x_bk, x_ct, x_set, x_ret, x_sif, x_drop, x_tg, x_gn, x_gtup, x_glist, x_gsn, x_gsc, x_so, x_for, x_lseq, x_ksl, x_kst, x_app, x_kapp, x_six, x_kix, x_aug, x_kaug, x_par, x_kpar, x_par3, x_kpar3, x_lc, x_any, x_yes, x_enum, x_kel, x_ket, x_range1, x_kr1, x_range2, x_kr2, x_fn, x_add, x_sub, x_lt, x_le, x_gt, x_ge, x_eq, x_ne, x_ixl, x_ixt, x_len, x_lent, x_tupl, x_tupt, x_lstl, x_lstt, x_int, x_trb, x_tri, x_trt, x_trl, x_wipe, x_wipe0, x_chain, x_kcht, x_kchf, x_gcd, x_escl, x_kscl, x_self, x_iss, x_maxg, x_ming, x_sortg, x_ord, x_ordn, x_revl, x_revt, bd1, bd0, Bool.and_self, Bool.and_true, Bool.true_and, List.getElem?_cons_zero, List.getElem?_cons_succ, List.set_cons_zero, List.set_cons_succ, List.set_nil, Option.bind_some, if_true, if_false, Bool.false_eq_true, reduceIte, List.length_cons, List.length_nil, Nat.reduceAdd, Nat.reduceSub, Nat.reduceLeDiff, Nat.reduceLT, Nat.zero_add, List.map_cons, List.map_nil, List.replicate_succ, List.replicate_zero, List.cons_append, List.nil_append, List.append_nil, e0, er, em]
theorem e_genus (fu : Nat) {R : List Nat} {m M : Nat} {ap : Nat → Nat} (h : Sg R m M ap) (rd : D) (hrd : rd = .tuple (rowD R) ∨ rd = .list (rowD R)) (er : m_remainders fu [some rd, some (.int (m : Int))] () = some (.list (rowD (apL ap m)), ())) :
    m_genus fu [some rd] () = some (.int ((((apL ap m).map fun a => a / m).sum : Nat) : Int), ()) := by
  have e0 : dIx rd (.int 0) = some (.int (m : Int)) := by
    rcases hrd with e | e <;> subst e <;> exact dIx_head h.head
  have hm := h.m0
  have e1 : lcGo (gN 2) tYe (eOp2 dDiv (eVar 2) (eVar 1)) [some rd, some (.int (m : Int)), none] (rowD (apL ap m)) () = some (rowD ((apL ap m).map fun a => a / m), ()) := by
    refine (lc_rowA (fun a : Nat => .int ((a / m : Nat) : Int)) fun a _ => ?_).trans ?_
    · have k : dDiv (.int (a : Int)) (.int (m : Int)) = some (.int ((a / m : Nat) : Int)) := by
        rw [dDiv_int (by omega) (Nat.lt_of_le_of_lt (show (m : Int).natAbs ≤ 1000 by omega) (by decide))]
        rfl
      simp only [x_bnd, x_bndN, x_var, x_c, x_op2, x_op1, x_tr, x_not, x_and, x_or, x_tan, x_too, x_tno, x_tof, x_kof, x_kso, x_if, x_nil, x_cons, x_lst, x_tup, x_call, x_callP, x_callS, x_sc, x_sl, x_no, x_seq, x_kn, x_kr, x_kb, x_kc, x_nx, x_bk, x_ct, x_set, x_ret, x_sif, x_drop, x_tg, x_gn, x_gtup, x_glist, x_gsn, x_gsc, x_so, x_for, x_lseq, x_ksl, x_kst, x_app, x_kapp, x_six, x_kix, x_aug, x_kaug, x_par, x_kpar, x_par3, x_kpar3, x_lc, x_any, x_yes, x_enum, x_kel, x_ket, x_range1, x_kr1, x_range2, x_kr2, x_fn, x_add, x_sub, x_lt, x_le, x_gt, x_ge, x_eq, x_ne, x_ixl, x_ixt, x_len, x_lent, x_tupl, x_tupt, x_lstl, x_lstt, x_int, x_trb, x_tri, x_trt, x_trl, x_wipe, x_wipe0, x_chain, x_kcht, x_kchf, x_gcd, x_escl, x_kscl, x_self, x_iss, x_maxg, x_ming, x_sortg, x_ord, x_ordn, x_revl, x_revt, bd1, bd0, Bool.and_self, Bool.and_true, Bool.true_and, List.getElem?_cons_zero, List.getElem?_cons_succ, List.set_cons_zero, List.set_cons_succ, List.set_nil, Option.bind_some, if_true, if_false, Bool.false_eq_true, reduceIte, List.length_cons, List.length_nil, Nat.reduceAdd, Nat.reduceSub, Nat.reduceLeDiff, Nat.reduceLT, Nat.zero_add, List.map_cons, List.map_nil, List.replicate_succ, List.replicate_zero, List.cons_append, List.nil_append, List.append_nil, k]
    · unfold rowD
      rw [List.map_map]
      rfl
  have z : (rowD ((apL ap m).map fun a => a / m)).length ≤ sizeLine := szK (by rw [rowD_len, List.length_map]; unfold apL; rw [List.length_map, List.length_range]; omega)
  unfold m_genus
  simp only [x_bnd, x_bndN, x_var, x_c, x_op2, x_op1, x_tr, x_not, x_and, x_or, x_tan, x_too, x_tno, x_tof, x_kof, x_kso, x_if, x_nil, x_cons, x_lst, x_tup, x_call, x_callP, x_callS, x_sc, x_sl, x_no, x_seq, x_kn, x_kr, x_kb, x_kc, x_nx, x_bk, x_ct, x_set, x_ret, x_sif, x_drop, x_tg, x_gn, x_gtup, x_glist, x_gsn, x_gsc, x_so, x_for, x_lseq, x_ksl, x_kst, x_app, x_kapp, x_six, x_kix, x_aug, x_kaug, x_par, x_kpar, x_par3, x_kpar3, x_lc, x_any, x_yes, x_enum, x_kel, x_ket, x_range1, x_kr1, x_range2, x_kr2, x_fn, x_add, x_sub, x_lt, x_le, x_gt, x_ge, x_eq, x_ne, x_ixl, x_ixt, x_len, x_lent, x_tupl, x_tupt, x_lstl, x_lstt, x_int, x_trb, x_tri, x_trt, x_trl, x_wipe, x_wipe0, x_chain, x_kcht, x_kchf, x_gcd, x_escl, x_kscl, x_self, x_iss, x_maxg, x_ming, x_sortg, x_ord, x_ordn, x_revl, x_revt, bd1, bd0, Bool.and_self, Bool.and_true, Bool.true_and, List.getElem?_cons_zero, List.getElem?_cons_succ, List.set_cons_zero, List.set_cons_succ, List.set_nil, Option.bind_some, if_true, if_false, Bool.false_eq_true, reduceIte, List.length_cons, List.length_nil, Nat.reduceAdd, Nat.reduceSub, Nat.reduceLeDiff, Nat.reduceLT, Nat.zero_add, List.map_cons, List.map_nil, List.replicate_succ, List.replicate_zero, List.cons_append, List.nil_append, List.append_nil, e0, er, e1, z, gSum_row]
theorem genus_gaps {R : List Nat} {m M : Nat} {ap : Nat → Nat} (h : Sg R m M ap) {N : Nat} (hN : ∀ n, ¬ El R n → n ≤ N) : (gapsL R N).length = ((apL ap m).map fun a => a / m).sum := by
  have hm := h.m0
  have key := h.least.genus (N := M + N + 1) fun k hk => by
    have := h.max (ap k) (List.mem_map.mpr ⟨k, List.mem_range.mpr hk, rfl⟩)
    exact Nat.le_trans this (Nat.le_trans (by omega : M ≤ M + N + 1) (Nat.le_mul_of_pos_right _ hm.1))
  rw [← key]
  have big : N + 1 ≤ (M + N + 1) * m := Nat.le_trans (by omega) (Nat.le_mul_of_pos_right _ hm.1)
  rw [filter_range (M := N + 1) (fun n hn => by
    have := hN n (by simpa [elb_false] using hn)
    omega) big, List.range_succ_eq_map, List.filter_cons_of_neg (by simp [elb_zero]), List.filter_map, List.length_map]
  unfold gapsL
  rw [List.length_map]
  rfl
/-! table_of (the program's) -/
theorem e_table_of (fu : Nat) {R : List Nat} (hp : ∀ a ∈ R, 0 < a) (hl : R.length ≤ 900000) {most : Nat} (hm : most ≤ 900000) {rd : D} (hrd : Rw rd R) :
    m_table_of fu [some rd, some (.int (most : Int))] () = some (.list (tab (elb R) (most + 1)), ()) := by
  refine wp_eqU ?_
  have hsq := hrd.sq ()
  have e0 : List.replicate (most + 1) (PyData.bool false) = tab (fun _ => false) (most + 1) := ftab_rep _ _
  have t0 : dRep (.list [.bool false]) (.int ((most + 1 : Nat) : Int)) = some (.list (tab (fun _ => false) (most + 1))) := by rw [y_repC (by omega), e0]
  unfold m_table_of
  simp_arith [t0]
  refine wp_forR1 (fun i ρ _ => ∃ (p : Nat → Bool) (a3 a4 : Option D), ρ = [some rd, some (.int (most : Int)), some (.list (tab p (most + 1))), a3, a4] ∧ ∀ k, k ≤ i → p k = elb R k) ⟨_, _, _, rfl, fun k hk => by rw [show k = 0 by omega, elb_zero]; rfl⟩ ?_ ?_
  · rintro i hi _ s ⟨p, a3, a4, rfl, h⟩
    simp_arith [hsq]
    refine wp_lcA (l := R) (f := fun a : Nat => .int (a : Int)) (fun a => .bool (decide (a ≤ i + 1) && p (i + 1 - a))) (fun a ha => ?_) ?_
    · have := hp a ha
      by_cases hle : a ≤ i + 1
      · simp_arith [hle]
      · simp_arith [hle]
    · have ev1 : (R.any fun a => decide (a ≤ i + 1) && p (i + 1 - a)) = elb R (i + 1) := by
        rw [el_step_iff hp (by omega), Bool.eq_iff_iff, List.any_eq_true, List.any_eq_true]
        constructor
        · rintro ⟨a, ha, e⟩
          have := hp a ha
          rw [h (i + 1 - a) (by omega)] at e
          exact ⟨a, ha, e⟩
        · rintro ⟨a, ha, e⟩
          have := hp a ha
          rw [← h (i + 1 - a) (by omega)] at e
          exact ⟨a, ha, e⟩
      simp_arith [ev1]
      refine ⟨_, _, _, rfl, fun k hk => ?_⟩
      show (if k = i + 1 then elb R (i + 1) else p k) = _
      split
      · rename_i e; rw [e]
      · exact h k (by omega)
  · rintro _ s ⟨p, a3, a4, rfl, h⟩
    simp_arith []
    rw [tab_congr (q := elb R) fun n hn => h n (by omega)]
/-! gluings: conductor and genus of a S1 + b S2 (plain) -/
theorem perm_of : ∀ (xs ys : List Nat), xs.Nodup → (∀ z ∈ xs, z ∈ ys) → ys.length ≤ xs.length → xs.Perm ys
  | [], ys, _, _, hl => by
    have : ys = [] := List.length_eq_zero_iff.mp (by simpa using hl)
    rw [this]
  | x :: xs, ys, hn, h, hl => by
    obtain ⟨h1, h2⟩ := List.nodup_cons.mp hn
    have hx := h x List.mem_cons_self
    have hp := List.perm_cons_erase hx
    have hlen := List.length_erase_of_mem hx
    have hpos := List.length_pos_of_mem hx
    have ih := perm_of xs (ys.erase x) h2 (fun z hz => (List.mem_erase_of_ne (fun e => h1 (by rw [← e]; exact hz))).mpr (h z (List.mem_cons_of_mem _ hz))) (by rw [hlen]; rw [List.length_cons] at hl; omega)
    exact (ih.cons x).trans hp.symm
/-- a semigroup with conductor c and genus g -/
structure Nsg (R : List Nat) (c g : Nat) : Prop where
  top : ∀ n, c ≤ n → El R n
  last : ∀ n, c = n + 1 → ¬ El R n
  gen : ∀ N, c ≤ N → ((List.range N).filter fun n => !elb R n).length = g
theorem cnt_add (p : Nat → Bool) (N K : Nat) (h : ∀ n, N ≤ n → n < N + K → p n = false) : ((List.range (N + K)).filter p).length = ((List.range N).filter p).length := by
  rw [List.range_add, List.filter_append, List.length_append]
  have : (((List.range K).map fun x => N + x).filter p) = [] := by
    refine List.filter_eq_nil_iff.mpr fun n hn => ?_
    obtain ⟨k, hk, rfl⟩ := List.mem_map.mp hn
    have := List.mem_range.mp hk
    rw [h _ (by omega) (by omega)]
    exact Bool.false_ne_true
  rw [this, List.length_nil, Nat.add_zero]
theorem Nsg.mk' {R : List Nat} {c g N : Nat} (h1 : ∀ n, c ≤ n → El R n) (h2 : ∀ n, c = n + 1 → ¬ El R n) (hN : c ≤ N) (h3 : ((List.range N).filter fun n => !elb R n).length = g) : Nsg R c g := by
  refine ⟨h1, h2, fun K hK => ?_⟩
  have st : ∀ M, c ≤ M → ((List.range M).filter fun n => !elb R n).length = ((List.range c).filter fun n => !elb R n).length := fun M hM => by
    have := cnt_add (fun n => !elb R n) c (M - c) (fun n hn _ => by
      have := elb_iff.mpr (h1 n hn)
      simp [this])
    rwa [show c + (M - c) = M by omega] at this
  rw [st K hK, ← st N hN, h3]
theorem nsg_one : Nsg [1] 0 0 := by
  have h : ∀ n, El [1] n := fun n => by
    induction n with
    | zero => exact .zero
    | succ n ih => exact .step (by simp) ih
  exact Nsg.mk' (N := 0) (fun n _ => h n) (fun n hn => by omega) (Nat.le_refl 0) rfl
theorem nsg_ex {R : List Nat} (hp : ∀ a ∈ R, 0 < a) (hne : R ≠ []) (hg : gcdL R = 1) : ∃ c g, Nsg R c g := by
  obtain ⟨m, hm⟩ : ∃ m, m ∈ R := List.exists_mem_of_ne_nil R hne
  obtain ⟨ap, A⟩ := ap_ex (hp m hm) (El.mem hm) hg
  obtain ⟨B, hB⟩ : ∃ B, ∀ k, k < m → ap k ≤ B := by
    have : ∀ j, ∃ B, ∀ k, k < j → ap k ≤ B := fun j => by
      induction j with
      | zero => exact ⟨0, fun k hk => by omega⟩
      | succ j ih =>
        obtain ⟨B, h⟩ := ih
        refine ⟨B + ap j, fun k hk => ?_⟩
        rcases Nat.lt_or_ge k j with z | z
        · have := h k z
          omega
        · have : k = j := by omega
          subst this
          omega
    exact this m
  have top : ∃ c, ∀ n, c ≤ n → El R n := ⟨B, fun n hn => (A.iff n).mpr (Nat.le_trans (hB _ (Nat.mod_lt _ A.pos)) hn)⟩
  obtain ⟨c, h1, h2⟩ := ex_least top
  refine ⟨c, _, Nsg.mk' h1 (fun n hn he => ?_) (Nat.le_refl c) rfl⟩
  refine h2 n (by omega) fun k hk => ?_
  rcases Nat.lt_or_ge n k with z | z
  · exact h1 k (by omega)
  · have : k = n := by omega
    subst this
    exact he
theorem Nsg.gcd {R : List Nat} {c g : Nat} (h : Nsg R c g) : gcdL R = 1 := by
  have d : ∀ n, c ≤ n → gcdL R ∣ n := fun n hn => by
    have := h.top n hn
    clear hn
    induction this with
    | zero => exact Nat.dvd_zero _
    | step ha _ ih => exact Nat.dvd_add ih (gcdL_dvd ha)
  have := Nat.dvd_sub (d (c + 1) (by omega)) (d c (by omega))
  rw [Nat.add_sub_cancel_left] at this
  exact Nat.dvd_one.mp this
/-- the row of a gluing -/
def GlR (a b : Nat) (R1 R2 R : List Nat) : Prop := ∀ x, x ∈ R ↔ (∃ y ∈ R1, x = a * y) ∨ ∃ y ∈ R2, x = b * y
theorem GlR.el {a b : Nat} {R1 R2 R : List Nat} (h : GlR a b R1 R2 R) {n : Nat} : El R n ↔ ∃ s t, El R1 s ∧ El R2 t ∧ n = a * s + b * t := by
  constructor
  · intro e
    induction e with
    | zero => exact ⟨0, 0, .zero, .zero, by simp⟩
    | @step n x hx _ ih =>
      obtain ⟨s, t, h1, h2, rfl⟩ := ih
      rcases (h x).mp hx with ⟨y, hy, rfl⟩ | ⟨y, hy, rfl⟩
      · exact ⟨s + y, t, .step hy h1, h2, by rw [Nat.mul_add]; omega⟩
      · exact ⟨s, t + y, h1, .step hy h2, by rw [Nat.mul_add]; omega⟩
  · rintro ⟨s, t, h1, h2, rfl⟩
    have e1 : El R (a * s) := by
      induction h1 with
      | zero => exact .zero
      | @step n y hy _ ih => rw [Nat.mul_add]; exact .step ((h _).mpr (.inl ⟨y, hy, rfl⟩)) ih
    have e2 : El R (b * t) := by
      clear e1
      induction h2 with
      | zero => exact .zero
      | @step n y hy _ ih => rw [Nat.mul_add]; exact .step ((h _).mpr (.inr ⟨y, hy, rfl⟩)) ih
    exact e1.add e2
/-- b times the residues of a -/
theorem mul_inj {a b j k : Nat} (hg : Nat.gcd a b = 1) (hj : j < a) (hk : k < a) (e : b * j % a = b * k % a) : j = k := by
  have key : ∀ j k : Nat, j ≤ k → k < a → b * j % a = b * k % a → j = k := fun j k hjk hk e => by
    have d := Nat.dvd_of_mod_eq_zero (Nat.sub_mod_eq_zero_of_mod_eq e.symm)
    rw [← Nat.mul_sub] at d
    have d := (show Nat.Coprime a b from hg).dvd_of_dvd_mul_left d
    rcases Nat.eq_zero_or_pos (k - j) with z | z
    · omega
    · have := Nat.le_of_dvd z d
      omega
  rcases Nat.le_total j k with z | z
  · exact key j k z hk e
  · exact (key k j z hj e.symm).symm
theorem mul_perm {a b : Nat} (ha : 0 < a) (hg : Nat.gcd a b = 1) : ((List.range a).map fun j => b * j % a).Perm (List.range a) := by
  refine perm_of _ _ ?_ ?_ (by rw [List.length_map]; exact Nat.le_refl _)
  · refine List.pairwise_map.mpr ((List.pairwise_lt_range).imp_of_mem fun {i j} hi hj hij e => ?_)
    have := mul_inj hg (List.mem_range.mp hi) (List.mem_range.mp hj) e
    omega
  · intro z hz
    obtain ⟨j, _, rfl⟩ := List.mem_map.mp hz
    exact List.mem_range.mpr (Nat.mod_lt _ ha)
theorem perm_sum {xs ys : List Nat} (h : xs.Perm ys) : xs.sum = ys.sum := by
  induction h with
  | nil => rfl
  | cons x _ ih => rw [List.sum_cons, List.sum_cons, ih]
  | swap x y l => simp only [List.sum_cons]; omega
  | trans _ _ h1 h2 => exact h1.trans h2
theorem range_two (a : Nat) : 2 * (List.range a).sum = a * (a - 1) := by
  induction a with
  | zero => rfl
  | succ a ih =>
    rw [List.range_succ, List.sum_append, List.sum_singleton, Nat.mul_add, ih, Nat.add_sub_cancel]
    cases a with
    | zero => rfl
    | succ k => rw [Nat.add_sub_cancel]; grind
theorem fin_glue {k b g2 S Q W : Nat} (h1 : 2 * S = (k + 1) * k) (h2 : (k + 1) * g2 + S = W) (h3 : (k + 1) * Q + S = b * W) : (k + 1) * (2 * Q + (k + 1) + b) = (k + 1) * (2 * (b * g2) + (k + 1) * b + 1) := by
  subst h2
  grind
theorem sum_lin {a b : Nat} {p r w : Nat → Nat} : ∀ l : List Nat, (∀ j ∈ l, a * p j + r j = b * w j) → a * (l.map p).sum + (l.map r).sum = b * (l.map w).sum
  | [], _ => by simp
  | j :: l, h => by
    have h1 := h j List.mem_cons_self
    have h2 := sum_lin l fun i hi => h i (List.mem_cons_of_mem _ hi)
    simp only [List.map_cons, List.sum_cons, Nat.mul_add]
    omega
theorem sum_shift {g : Nat} {p : Nat → Nat} : ∀ l : List Nat, (l.map fun j => p j + g).sum = (l.map p).sum + l.length * g
  | [] => by simp
  | j :: l => by
    have := sum_shift (g := g) (p := p) l
    simp only [List.map_cons, List.sum_cons, List.length_cons, Nat.add_mul]
    omega
section
variable {a b : Nat} {R1 R2 R : List Nat} {c1 g1 c2 g2 : Nat} {ap : Nat → Nat}
theorem glue_at (A : Ap R2 a ap) (hb : El R1 b) (hg : Nat.gcd a b = 1) (G : GlR a b R1 R2 R) {j n : Nat} (hj : j < a) (hn : n % a = b * j % a) : El R n ↔ b * ap j ≤ n ∧ El R1 ((n - b * ap j) / a) := by
  have ha := A.pos
  have aj := (A.el j hj).2
  have hw : b * ap j % a = b * j % a := by rw [Nat.mul_mod, aj, Nat.mul_mod b j, Nat.mod_eq_of_lt hj]
  rw [G.el]
  constructor
  · rintro ⟨s, t, h1, h2, rfl⟩
    have ht : t % a = j := by
      refine mul_inj hg (Nat.mod_lt _ ha) hj ?_
      rw [← hn, Nat.mul_add_mod, Nat.mul_mod, Nat.mod_mod, ← Nat.mul_mod]
    have hle := (A.iff t).mp h2
    rw [ht] at hle
    obtain ⟨k, hk⟩ := dvd_sub_modF (aj.trans ht.symm) hle
    have et : t = ap j + a * k := by omega
    have e : a * s + b * t = a * (s + k * b) + b * ap j := by
      rw [et]
      grind
    rw [e, Nat.add_sub_cancel, Nat.mul_div_cancel_left _ ha]
    exact ⟨by omega, h1.add (hb.mul k)⟩
  · rintro ⟨hle, h⟩
    obtain ⟨k, hk⟩ := dvd_sub_modF (hw.trans hn.symm) hle
    refine ⟨_, _, h, (A.el j hj).1, ?_⟩
    rw [hk, Nat.mul_div_cancel_left _ ha]
    omega
theorem ap_top (A : Ap R2 a ap) (N2 : Nsg R2 c2 g2) : (∀ j, j < a → ap j + 1 ≤ c2 + a) ∧ ∃ j, j < a ∧ ap j + 1 = c2 + a := by
  have ha := A.pos
  have up : ∀ j, j < a → ap j + 1 ≤ c2 + a := fun j hj => by
    refine Decidable.byContradiction fun z => ?_
    have h1 := (A.iff _).mp (N2.top (ap j - a) (by omega))
    have : (ap j - a) % a = j := by
      rw [← Nat.mod_eq_sub_mod (by omega), (A.el j hj).2]
    rw [this] at h1
    omega
  refine ⟨up, ?_⟩
  rcases Nat.eq_zero_or_pos c2 with z | z
  · refine ⟨a - 1, by omega, ?_⟩
    have h1 := up (a - 1) (by omega)
    have h2 := (A.el (a - 1) (by omega)).2
    have : a - 1 ≤ ap (a - 1) := by
      have := Nat.mod_le (ap (a - 1)) a
      omega
    omega
  · have hj := Nat.mod_lt (c2 - 1) ha
    refine ⟨(c2 - 1) % a, hj, ?_⟩
    have h1 := up _ hj
    have h2 := (A.el _ hj).2
    have h3 : ¬ ap ((c2 - 1) % a) ≤ c2 - 1 := fun y => N2.last (c2 - 1) (by omega) ((A.iff _).mpr y)
    have := Nat.le_of_dvd (by omega) (dvd_sub_modF (m := a) (a := c2 - 1) (b := ap ((c2 - 1) % a)) h2.symm (by omega))
    omega
theorem cnt_shift {p : Nat → Bool} {q K : Nat} (hq : ∀ t, t < q → p t = true) (hK : q ≤ K) : ((List.range K).filter p).length = q + ((List.range (K - q)).filter fun t => p (q + t)).length := by
  have e : K = q + (K - q) := by omega
  conv => lhs; rw [e]
  rw [List.range_add, List.filter_append, List.length_append, List.filter_eq_self.mpr (fun t ht => hq t (List.mem_range.mp ht)), List.length_range, List.filter_map, List.length_map]
  rfl
theorem glue_nsg (N1 : Nsg R1 c1 g1) (N2 : Nsg R2 c2 g2) (ha : El R2 a) (hb : El R1 b) (a0 : 0 < a) (b0 : 0 < b) (hg : Nat.gcd a b = 1) (G : GlR a b R1 R2 R) :
    ∃ c g, Nsg R c g ∧ c + a + b = a * c1 + b * c2 + a * b + 1 ∧ 2 * g + a + b = 2 * (a * g1) + 2 * (b * g2) + a * b + 1 := by
  obtain ⟨ap, A⟩ := ap_ex a0 ha N2.gcd
  obtain ⟨up, j0, hj0, e0⟩ := ap_top A N2
  obtain ⟨M, hM⟩ : ∃ M, M = ap j0 := ⟨_, rfl⟩
  have upM : ∀ j, j < a → b * ap j ≤ b * M := fun j hj => Nat.mul_le_mul_left _ (by have := up j hj; omega)
  have bM : 1 * M ≤ b * M := Nat.mul_le_mul_right _ b0
  have eb : b * M + b = b * c2 + a * b := by
    have : b * (M + 1) = b * (c2 + a) := by rw [hM, e0]
    rw [Nat.mul_add, Nat.mul_add, Nat.mul_comm b a] at this
    omega
  obtain ⟨c, hc⟩ : ∃ c, c + a = a * c1 + b * M + 1 := ⟨a * c1 + b * M + 1 - a, by omega⟩
  have hbj : ∀ j, j < a → b * ap j % a = b * j % a := fun j hj => by rw [Nat.mul_mod, (A.el j hj).2, Nat.mul_mod b j, Nat.mod_eq_of_lt hj]
  have perm := mul_perm a0 hg
  have top : ∀ n, c ≤ n → El R n := fun n hn => by
    obtain ⟨j, hj, ej⟩ := List.mem_map.mp ((perm.mem_iff (a := n % a)).mpr (List.mem_range.mpr (Nat.mod_lt _ a0)))
    have hj := List.mem_range.mp hj
    have hw := upM j hj
    have hmod : n % a = b * ap j % a := by rw [hbj j hj]; exact ej.symm
    have hle : b * ap j ≤ n := by
      refine Decidable.byContradiction fun z => ?_
      have := Nat.le_of_dvd (by omega) (dvd_sub_modF (m := a) hmod (by omega))
      omega
    obtain ⟨x, hx⟩ := dvd_sub_modF (m := a) hmod.symm hle
    refine (glue_at A hb hg G hj ej.symm).mpr ⟨hle, N1.top _ ?_⟩
    rw [hx, Nat.mul_div_cancel_left _ a0]
    have : a * c1 < a * (x + 1) := by rw [Nat.mul_add]; omega
    have := Nat.lt_of_mul_lt_mul_left this
    omega
  have last : ∀ n, c = n + 1 → ¬ El R n := fun n hn he => by
    have e1 : n + a = a * c1 + b * M := by omega
    have hmod : n % a = b * j0 % a := by
      have : (n + a) % a = (a * c1 + b * M) % a := by rw [e1]
      rw [Nat.add_mod_right, Nat.mul_add_mod, hM, hbj j0 hj0] at this
      exact this
    obtain ⟨hle, hx⟩ := (glue_at A hb hg G hj0 hmod).mp he
    rw [← hM] at hle hx
    obtain ⟨x, hxx⟩ : ∃ x, n - b * M = a * x := dvd_sub_modF (m := a) (by rw [hM, hbj j0 hj0]; exact hmod.symm) hle
    rw [hxx, Nat.mul_div_cancel_left _ a0] at hx
    have : a * c1 = a * (x + 1) := by rw [Nat.mul_add]; omega
    have := Nat.eq_of_mul_eq_mul_left a0 this
    exact N1.last x this hx
  obtain ⟨K, hK⟩ : ∃ K, K = a * c1 + b * M + c1 + 1 := ⟨_, rfl⟩
  have big : c ≤ K * a := Nat.le_trans (by omega) (Nat.le_mul_of_pos_right K a0)
  -- the gaps, residue by residue
  have col : ∀ j, j < a → ((List.range K).filter fun t => !elb R (b * j % a + t * a)).length = b * ap j / a + g1 := fun j hj => by
    obtain ⟨q, hq⟩ : ∃ q, q = b * ap j / a := ⟨_, rfl⟩
    have dm := Nat.div_add_mod (b * ap j) a
    rw [hbj j hj, ← hq] at dm
    have qle : q ≤ b * ap j := by rw [hq]; exact Nat.div_le_self _ _
    have hw := upM j hj
    have iff : ∀ t, El R (b * j % a + t * a) ↔ q ≤ t ∧ El R1 (t - q) := fun t => by
      rw [glue_at A hb hg G hj (by rw [Nat.add_mul_mod_self_right, Nat.mod_mod])]
      have hle : b * ap j ≤ b * j % a + t * a ↔ q ≤ t := by
        rw [← dm]
        constructor
        · intro h
          exact Nat.le_of_mul_le_mul_left (show a * q ≤ a * t by rw [Nat.mul_comm a t]; omega) a0
        · intro h
          have := Nat.mul_le_mul_left a h
          rw [Nat.mul_comm a t] at this
          omega
      rw [hle]
      refine and_congr_right fun h => ?_
      have : b * j % a + t * a - b * ap j = a * (t - q) := by
        rw [← dm, Nat.mul_sub, Nat.mul_comm a t]
        omega
      rw [this, Nat.mul_div_cancel_left _ a0]
    rw [cnt_shift (q := q) (fun t ht => by
      rw [Bool.not_eq_true', elb_false, iff]
      omega) (by omega), ← hq]
    congr 1
    rw [← N1.gen (K - q) (by omega)]
    congr 2
    funext t
    have : elb R (b * j % a + (q + t) * a) = elb R1 t := by
      rw [Bool.eq_iff_iff, elb_iff, elb_iff, iff, Nat.add_sub_cancel_left]
      exact ⟨fun h => h.2, fun h => ⟨by omega, h⟩⟩
    rw [this]
  have cnt := count_res (fun n => !elb R n) a K
  rw [← perm_sum (perm.map fun k => ((List.range K).filter fun t => !elb R (k + t * a)).length), List.map_map] at cnt
  have cnt2 : ((List.range (K * a)).filter fun n => !elb R n).length = ((List.range a).map fun j => b * ap j / a + g1).sum := by
    rw [cnt]
    congr 1
    exact List.map_congr_left fun j hj => col j (List.mem_range.mp hj)
  rw [sum_shift, List.length_range] at cnt2
  have q1 := sum_lin (a := a) (b := b) (p := fun j => b * ap j / a) (r := fun j => b * j % a) (w := ap) (List.range a) fun j hj => by
    have hj := List.mem_range.mp hj
    have := Nat.div_add_mod (b * ap j) a
    rw [hbj j hj] at this
    exact this
  rw [perm_sum perm] at q1
  have q2 := sum_lin (a := a) (b := 1) (p := fun j => ap j / a) (r := fun j => j) (w := ap) (List.range a) fun j hj => by
    have hj := List.mem_range.mp hj
    have := Nat.div_add_mod (ap j) a
    rw [(A.el j hj).2] at this
    omega
  have q3 : ((List.range a).map fun j => ap j / a).sum = g2 := by
    have big2 : ∀ k, k < a → ap k ≤ (c2 + a) * a := fun k hk => by
      have := up k hk
      exact Nat.le_trans (by omega) (Nat.le_mul_of_pos_right (c2 + a) a0)
    have := A.genus big2
    rw [N2.gen _ (Nat.le_trans (by omega : c2 ≤ c2 + a) (Nat.le_mul_of_pos_right (c2 + a) a0))] at this
    rw [this]
    unfold apL
    rw [List.map_map]
    rfl
  have q4 := range_two a
  rw [List.map_id'] at q2
  rw [q3] at q2
  generalize ((List.range a).map fun j => b * ap j / a).sum = Q at cnt2 q1
  generalize ((List.range a).map ap).sum = W at q1 q2
  generalize (List.range a).sum = S at q1 q2 q4
  refine ⟨c, Q + a * g1, Nsg.mk' top last big cnt2, by omega, ?_⟩
  have : a * (2 * Q + a + b) = a * (2 * (b * g2) + a * b + 1) := by
    obtain ⟨k, rfl⟩ : ∃ k, a = k + 1 := ⟨a - 1, by omega⟩
    rw [Nat.add_sub_cancel] at q4
    exact fin_glue q4 (by omega) q1
  have := Nat.eq_of_mul_eq_mul_left a0 this
  omega
end
/-! least_of (proportional.py) -/
theorem sortset_up (row : List Nat) (h : row.length ≤ 4000) : ∃ row' : List Nat, gSortSet (.tuple (rowD row)) = some (.list (rowD row')) ∧ gSortSet (.list (rowD row)) = some (.list (rowD row')) ∧ row'.Pairwise (· < ·) ∧ (∀ a, a ∈ row' ↔ a ∈ row) ∧ row'.length ≤ row.length := by
  have e1 : rowD row = (row.map fun n : Nat => (n : Int)).map PyData.int := by rw [List.map_map]; rfl
  have h4 : (row.map fun n : Nat => (n : Int)).length ≤ 4000 := by rw [List.length_map]; exact h
  have e2 : gSortSet (.list (rowD row)) = some (.list ((sortU (row.map fun n : Nat => (n : Int))).map PyData.int)) := by
    rw [e1]
    show (ints? _).bind _ = _
    rw [ints?_map, Option.bind_some, if_pos h4]
  have e3 : gSortSet (.tuple (rowD row)) = some (.list ((sortU (row.map fun n : Nat => (n : Int))).map PyData.int)) := by
    rw [e1]
    show (ints? _).bind _ = _
    rw [ints?_map, Option.bind_some, if_pos h4]
  have as := sortU_asc (row.map fun n : Nat => (n : Int))
  have hm := fun z : Int => (sortU_mem (z := z) : z ∈ sortU (row.map fun n : Nat => (n : Int)) ↔ _)
  generalize sortU (row.map fun n : Nat => (n : Int)) = ys at e2 e3 as hm
  have hy : ys = (ys.map Int.toNat).map fun n : Nat => (n : Int) := by
    rw [List.map_map]
    refine (List.map_id' ys).symm.trans (List.map_congr_left fun z hz => ?_)
    obtain ⟨a, _, e⟩ := List.mem_map.mp ((hm z).mp hz)
    show z = ((z.toNat : Nat) : Int)
    omega
  have hz : ∀ z ∈ ys, 0 ≤ z := fun z hz => by
    obtain ⟨a, _, e⟩ := List.mem_map.mp ((hm z).mp hz)
    omega
  have hmem : ∀ a, a ∈ ys.map Int.toNat ↔ a ∈ row := fun a => by
    constructor
    · intro h
      obtain ⟨z, hz2, e⟩ := List.mem_map.mp h
      obtain ⟨b, hb, e2⟩ := List.mem_map.mp ((hm z).mp hz2)
      have : a = b := by omega
      rw [this]; exact hb
    · intro h
      exact List.mem_map.mpr ⟨(a : Int), (hm _).mpr (List.mem_map.mpr ⟨a, h, rfl⟩), Int.toNat_natCast a⟩
  have e5 : ys.map PyData.int = rowD (ys.map Int.toNat) := by
    conv => lhs; rw [hy]
    rw [List.map_map]
    rfl
  have pw : (ys.map Int.toNat).Pairwise (· < ·) := List.pairwise_map.mpr (as.imp_of_mem fun {a b} ha hb h => by have := hz a ha; have := hz b hb; omega)
  refine ⟨ys.map Int.toNat, by rw [e3, e5], by rw [e2, e5], pw, hmem, ?_⟩
  exact (List.Nodup.length_le_of_subset (pw.imp fun h e => by omega) fun a ha => (hmem a).mp ha)
/-! rows: in, ==, != -/
theorem dIn_row (a : Nat) (h : List Nat) : dIn (.int (a : Int)) (.list (rowD h)) = some (.bool (decide (a ∈ h))) := by
  have f1 : (rowD h).all isFlat = true := by
    rw [List.all_eq_true]
    intro x hx
    unfold rowD at hx
    obtain ⟨b, _, rfl⟩ := List.mem_map.mp hx
    rfl
  have key : ((rowD h).any fun y => eqF y (.int (a : Int))) = decide (a ∈ h) := by
    clear f1
    unfold rowD
    rw [Bool.eq_iff_iff, List.any_eq_true, decide_eq_true_iff]
    constructor
    · rintro ⟨y, hy, e⟩
      obtain ⟨b, hb, rfl⟩ := List.mem_map.mp hy
      have e : ((b : Int) == (a : Int)) = true := e
      have : (b : Int) = (a : Int) := by simpa using e
      have : b = a := by omega
      rw [← this]
      exact hb
    · intro hb
      exact ⟨_, List.mem_map.mpr ⟨a, hb, rfl⟩, show ((a : Int) == (a : Int)) = true by simp⟩
  show (inD _ _).bind _ = _
  unfold inD
  rw [if_pos ⟨rfl, f1⟩, Option.bind_some, key]
theorem dNin_row (a : Nat) (h : List Nat) : dNin (.int (a : Int)) (.list (rowD h)) = some (.bool (!decide (a ∈ h))) := by
  have k := dIn_row a h
  have k : (inD (.int (a : Int)) (rowD h)).bind (fun b => some (PyData.bool b)) = some (.bool (decide (a ∈ h))) := k
  show (inD (.int (a : Int)) (rowD h)).bind (fun b => some (PyData.bool (!b))) = _
  cases hb : inD (.int (a : Int)) (rowD h) with
  | none => rw [hb] at k; cases k
  | some b =>
    rw [hb] at k
    have : b = decide (a ∈ h) := by
      have := Option.some.inj k
      injection this
    rw [Option.bind_some, this]
theorem eqv_rows : ∀ (xs ys : List Nat), PyData.eqvAll (rowD xs) (rowD ys) = decide (xs = ys)
  | [], [] => rfl
  | [], y :: ys => by simp [rowD, PyData.eqvAll]
  | x :: xs, [] => by simp [rowD, PyData.eqvAll]
  | x :: xs, y :: ys => by
    have ih := eqv_rows xs ys
    unfold rowD at ih ⊢
    rw [List.map_cons, List.map_cons, PyData.eqvAll, ih, PyData.eqv]
    rw [Bool.eq_iff_iff]
    simp
    omega
theorem dEq_rowsT (xs ys : List Nat) : dEq (.tuple (rowD xs)) (.tuple (rowD ys)) = some (.bool (decide (xs = ys))) := by
  unfold dEq
  rw [if_pos ⟨shaped_rowT xs, shaped_rowT ys⟩, PyData.eqv, eqv_rows]
theorem dNe_rowsT (xs ys : List Nat) : dNe (.tuple (rowD xs)) (.tuple (rowD ys)) = some (.bool (!decide (xs = ys))) := by
  unfold dNe
  rw [if_pos ⟨shaped_rowT xs, shaped_rowT ys⟩, PyData.eqv, eqv_rows]
theorem dEq_rowsL (xs ys : List Nat) : dEq (.list (rowD xs)) (.list (rowD ys)) = some (.bool (decide (xs = ys))) := by
  unfold dEq
  rw [if_pos ⟨shaped_row xs, shaped_row ys⟩, PyData.eqv, eqv_rows]
theorem dNe_rowsL (xs ys : List Nat) : dNe (.list (rowD xs)) (.list (rowD ys)) = some (.bool (!decide (xs = ys))) := by
  unfold dNe
  rw [if_pos ⟨shaped_row xs, shaped_row ys⟩, PyData.eqv, eqv_rows]
/-- sorted: a row of different numbers -/
theorem sorted_up (row : List Nat) (nd : row.Nodup) : ∃ row' : List Nat, gSorted [.list (rowD row)] = some (.list (rowD row')) ∧ row'.Pairwise (· < ·) ∧ ∀ a, a ∈ row' ↔ a ∈ row := by
  have hp := sortI_perm (row.map fun a : Nat => (a : Int))
  have hs := sortI_sorted (row.map fun a : Nat => (a : Int))
  have hall : ∀ z ∈ sortI (row.map fun a : Nat => (a : Int)), ∃ a : Nat, z = (a : Int) := fun z hz => by
    obtain ⟨a, _, e⟩ := List.mem_map.mp (hp.mem_iff.mp hz)
    exact ⟨a, e.symm⟩
  have : ∃ l : List Nat, sortI (row.map fun a : Nat => (a : Int)) = l.map fun a : Nat => (a : Int) := by
    clear hp hs
    generalize sortI (row.map fun a : Nat => (a : Int)) = zs at hall
    induction zs with
    | nil => exact ⟨[], rfl⟩
    | cons z zs ih =>
      obtain ⟨a, rfl⟩ := hall z List.mem_cons_self
      obtain ⟨l, e⟩ := ih fun w hw => hall w (List.mem_cons_of_mem _ hw)
      exact ⟨a :: l, by rw [e]; rfl⟩
  obtain ⟨l, e⟩ := this
  rw [e] at hp hs
  have nd1 : (row.map fun a : Nat => (a : Int)).Nodup := List.pairwise_map.mpr (nd.imp fun h z => h (by omega))
  have nd2 : (l.map fun a : Nat => (a : Int)).Nodup := hp.nodup_iff.mpr nd1
  have nd3 : l.Pairwise (· ≠ ·) := (List.pairwise_map.mp nd2).imp fun h z => h (by rw [z])
  have as : l.Pairwise (· ≤ ·) := (List.pairwise_map.mp hs).imp fun h => by omega
  refine ⟨l, ?_, (as.and nd3).imp fun h => by omega, fun a => ?_⟩
  · show (ints? (rowD row)).bind _ = _
    rw [rowD_ints, ints?_map, Option.bind_some, e, rowD_ints]
  · have h1 := hp.mem_iff (a := (a : Int))
    rw [List.mem_map, List.mem_map] at h1
    constructor
    · intro h
      obtain ⟨b, hb, e⟩ := h1.mp ⟨a, h, rfl⟩
      have : b = a := by omega
      rw [← this]; exact hb
    · intro h
      obtain ⟨b, hb, e⟩ := h1.mpr ⟨a, h, rfl⟩
      have : b = a := by omega
      rw [← this]; exact hb
/-! k40: sorted, least generators, the draws -/
theorem sorted_uniq : ∀ {xs ys : List Nat}, xs.Pairwise (· ≤ ·) → ys.Pairwise (· ≤ ·) → xs.Perm ys → xs = ys
  | [], ys, _, _, p => p.symm.eq_nil.symm
  | x :: xs, [], _, _, p => p.eq_nil
  | x :: xs, y :: ys, h1, h2, p => by
    obtain ⟨p1, q1⟩ := List.pairwise_cons.mp h1
    obtain ⟨p2, q2⟩ := List.pairwise_cons.mp h2
    have e : x = y := by
      rcases List.mem_cons.mp (p.mem_iff.mp List.mem_cons_self) with z | z
      · exact z
      · rcases List.mem_cons.mp (p.mem_iff.mpr List.mem_cons_self) with y' | y'
        · exact y'.symm
        · have := p2 x z
          have := p1 y y'
          omega
    subst e
    rw [sorted_uniq q1 q2 ((List.perm_cons x).mp p)]
theorem srt_ex (xs : List Nat) : ∃ l : List Nat, gSortedW [.list (rowD xs)] = some (.list (rowD l)) ∧ gSortedW [.tuple (rowD xs)] = some (.list (rowD l)) ∧ l.Perm xs ∧ l.Pairwise (· ≤ ·) := by
  have hp := sortI_perm (xs.map fun a : Nat => (a : Int))
  have hs := sortI_sorted (xs.map fun a : Nat => (a : Int))
  have hall : ∀ z ∈ sortI (xs.map fun a : Nat => (a : Int)), 0 ≤ z := fun z hz => by
    obtain ⟨a, _, e⟩ := List.mem_map.mp (hp.mem_iff.mp hz)
    omega
  generalize hz : sortI (xs.map fun a : Nat => (a : Int)) = zs at hp hs hall
  have e : zs = (zs.map Int.toNat).map fun a : Nat => (a : Int) := by
    rw [List.map_map]
    refine (List.map_id' zs).symm.trans (List.map_congr_left fun z hz => ?_)
    have := hall z hz
    show z = ((z.toNat : Nat) : Int)
    omega
  refine ⟨zs.map Int.toNat, ?_, ?_, ?_, ?_⟩
  · show orD (orD ((ints? (rowD xs)).bind _) _) _ = _
    rw [rowD_ints, ints?_map, Option.bind_some, hz, rowD_ints, ← e]
    rfl
  · show (ints? (rowD xs)).bind _ = _
    rw [rowD_ints, ints?_map, Option.bind_some, hz, rowD_ints, ← e]
  · have := hp.map Int.toNat
    rw [List.map_map] at this
    rwa [show (xs.map (Int.toNat ∘ fun a : Nat => (a : Int))) = xs from (List.map_congr_left fun a _ => Int.toNat_natCast a).trans (List.map_id' xs)] at this
  · refine List.pairwise_map.mpr (hs.imp fun h => by omega)
noncomputable def srt (xs : List Nat) : List Nat := Classical.choose (srt_ex xs)
theorem srt_l (xs : List Nat) : gSortedW [.list (rowD xs)] = some (.list (rowD (srt xs))) := (Classical.choose_spec (srt_ex xs)).1
theorem srt_t (xs : List Nat) : gSortedW [.tuple (rowD xs)] = some (.list (rowD (srt xs))) := (Classical.choose_spec (srt_ex xs)).2.1
theorem srt_perm (xs : List Nat) : (srt xs).Perm xs := (Classical.choose_spec (srt_ex xs)).2.2.1
theorem srt_le (xs : List Nat) : (srt xs).Pairwise (· ≤ ·) := (Classical.choose_spec (srt_ex xs)).2.2.2
theorem srt_self {xs : List Nat} (h : xs.Pairwise (· ≤ ·)) : srt xs = xs := sorted_uniq (srt_le xs) h (srt_perm xs)
theorem srt_eq {xs ys : List Nat} (h : xs.Perm ys) : srt xs = srt ys := sorted_uniq (srt_le xs) (srt_le ys) ((srt_perm xs).trans (h.trans (srt_perm ys).symm))
theorem dNin_rowT (a : Nat) (h : List Nat) : dNin (.int (a : Int)) (.tuple (rowD h)) = some (.bool (!decide (a ∈ h))) := (dNin_row a h : _)
theorem e_lcommon (fu : Nat) {xs : List Nat} {rd : D} (hrd : Rw rd xs) : m__law_common fu [some rd] () = some (.int ((gcdL xs : Nat) : Int), ()) := by
  refine wp_eqU ?_
  have hsq := hrd.sq ()
  unfold m__law_common
  simp_arith [hsq]
  refine wp_forRow (fun i ρ _ => ∃ a2, ρ = [some rd, some (.int ((gcdL (xs.take i) : Nat) : Int)), a2]) ⟨none, rfl⟩ ?_ ?_
  · rintro i y hy _ s ⟨a2, rfl⟩
    have t := e_gcdB fu (gcdL (xs.take i)) y
    rw [gcdL_succ hy]
    simp_arith [t]
    exact ⟨_, rfl⟩
  · rintro _ s ⟨a2, rfl⟩
    simp_arith []
    rw [List.take_length]
theorem e_common (fu : Nat) {xs : List Nat} (hb : ∀ x ∈ xs, x ≤ 100000) {rd : D} (hrd : Rw rd xs) : m_common fu [some rd] () = some (.int ((gcdL xs : Nat) : Int), ()) := by
  refine wp_eqU ?_
  have hsq := hrd.sq ()
  unfold m_common
  simp_arith [hsq]
  refine wp_forRow (fun i ρ _ => ∃ a2, ρ = [some rd, some (.int ((gcdL (xs.take i) : Nat) : Int)), a2]) ⟨none, rfl⟩ ?_ ?_
  · rintro i y hy _ s ⟨a2, rfl⟩
    rw [gcdL_succ hy]
    simp_arith []
    exact ⟨_, rfl⟩
  · rintro _ s ⟨a2, rfl⟩
    simp_arith []
    rw [List.take_length]
theorem e_lleast (fu : Nat) {xs : List Nat} (hp : ∀ x ∈ xs, 0 < x ∧ x ≤ 100000) (hl : xs.length ≤ 4000) {rd : D} (hrd : Rw rd xs) : ∃ R, m__law_least fu [some rd] () = some (.tuple (rowD R), ()) ∧ Lst xs R ∧ R.length ≤ xs.length := by
  obtain ⟨ys, s1, s2, as, hm, ly⟩ := sortset_up xs hl
  have hs : gSortSet rd = some (.list (rowD ys)) := by rcases hrd with e | e <;> subst e <;> assumption
  have hpy : ∀ y ∈ ys, 0 < y ∧ y ≤ 100000 := fun y hy => hp y ((hm y).mp hy)
  obtain ⟨g1, g2⟩ := grd_lst ys as fun y hy => (hpy y hy).1
  refine ⟨grd ys, ?_, ⟨g1.asc, fun x hx => (hm x).mp (g1.sub x hx), fun x hx => g1.el x ((hm x).mpr hx), g1.least⟩, by omega⟩
  refine wp_eqU ?_
  unfold m__law_least
  simp_arith [hs]
  refine wp_forRow (fun i ρ _ => ∃ a2, ρ = [some rd, some (.tuple (rowD (grd (ys.take i)))), a2]) ⟨none, rfl⟩ ?_ ?_
  · rintro i y hy _ s ⟨a2, rfl⟩
    have hyy := hpy y (List.mem_of_getElem? hy)
    have l1 := (grd_lst (ys.take i) (as.sublist (List.take_sublist i ys)) fun y hy => (hpy y (List.mem_of_mem_take hy)).1)
    have l2 : (ys.take i).length ≤ ys.length := by rw [List.length_take]; omega
    have l3 : ∀ a ∈ grd (ys.take i), 0 < a := fun a ha => (hpy a (List.mem_of_mem_take (l1.1.sub a ha))).1
    have t := e_law_table fu l3 (by omega) (most := y) (by omega) (rd := .tuple (rowD (grd (ys.take i)))) (.inl rfl)
    have l4 := l1.2
    simp_arith [t]
    cases hb : elb (grd (ys.take i)) y with
    | true =>
      have e : grd (ys.take (i + 1)) = grd (ys.take i) := by rw [grd_succ hy, if_pos hb]
      rw [e]
      simp_arith []
      exact ⟨_, rfl⟩
    | false =>
      have e : rowD (grd (ys.take i)) ++ [PyData.int (y : Int)] = rowD (grd (ys.take (i + 1))) := by
        rw [grd_succ hy, if_neg (by rw [hb]; exact Bool.false_ne_true)]
        unfold rowD
        rw [List.map_append]
        rfl
      simp_arith []
      rw [e]
      exact ⟨_, rfl⟩
  · rintro _ s ⟨a2, rfl⟩
    simp_arith []
    rw [List.take_length]
structure SG (R : List Nat) : Prop where
  asc : R.Pairwise (· < ·)
  pos : ∀ x ∈ R, 0 < x ∧ x ≤ 10
  len : 2 ≤ R.length ∧ R.length ≤ 5
  gcd : gcdL R = 1
  least : ∀ x ∈ R, ¬ El (R.filter fun y => decide (y < x)) x
theorem gcdL_div {xs : List Nat} (hp : ∀ x ∈ xs, 0 < x) (hne : xs ≠ []) : 0 < gcdL xs ∧ gcdL (xs.map fun x => x / gcdL xs) = 1 := by
  obtain ⟨x, hx⟩ := List.exists_mem_of_ne_nil xs hne
  have d := gcdL_dvd hx
  have g0 : 0 < gcdL xs := Nat.pos_of_dvd_of_pos d (hp x hx)
  refine ⟨g0, ?_⟩
  have : gcdL xs * gcdL (xs.map fun x => x / gcdL xs) ∣ gcdL xs := dvd_gcdL fun y hy => by
    have h1 := gcdL_dvd hy
    have h2 : gcdL (xs.map fun x => x / gcdL xs) ∣ y / gcdL xs := gcdL_dvd (List.mem_map.mpr ⟨y, hy, rfl⟩)
    have := Nat.mul_dvd_mul_left (gcdL xs) h2
    rwa [Nat.mul_div_cancel' h1] at this
  have := Nat.le_of_dvd g0 this
  have h3 : gcdL (xs.map fun x => x / gcdL xs) ≠ 0 := fun z => by
    have h4 : gcdL (xs.map fun x => x / gcdL xs) ∣ x / gcdL xs := gcdL_dvd (List.mem_map.mpr ⟨x, hx, rfl⟩)
    rw [z] at h4
    have := Nat.eq_zero_of_zero_dvd h4
    have := Nat.div_pos (Nat.le_of_dvd (hp x hx) d) g0
    omega
  have : gcdL xs * gcdL (xs.map fun x => x / gcdL xs) ≤ gcdL xs * 1 := by omega
  have := Nat.le_of_mul_le_mul_left this g0
  omega
theorem Lst.gcdEq {xs R : List Nat} (h : Lst xs R) : gcdL R = gcdL xs := by
  refine Nat.dvd_antisymm (dvd_gcdL fun x hx => ?_) (dvd_gcdL fun x hx => gcdL_dvd (h.sub x hx))
  have := h.el x hx
  clear hx
  induction this with
  | zero => exact Nat.dvd_zero _
  | step ha _ ih => exact Nat.dvd_add ih (gcdL_dvd ha)
theorem least_two {a : Nat} (ha : 2 ≤ a) : ∀ x ∈ [a, a + 1], ¬ El ([a, a + 1].filter fun y => decide (y < x)) x := by
  intro x hx e
  have hx : x = a ∨ x = a + 1 := by simpa using hx
  rcases hx with rfl | rfl
  · rw [List.filter_cons_of_neg (by simp), List.filter_cons_of_neg (by simp), List.filter_nil] at e
    obtain ⟨y, hy, _⟩ := e.pre (by omega)
    cases hy
  · rw [List.filter_cons_of_pos (by simp), List.filter_cons_of_neg (by simp), List.filter_nil] at e
    have d : ∀ n, El [a] n → a ∣ n := fun n hn => by
      induction hn with
      | zero => exact Nat.dvd_zero a
      | step hb _ ih =>
        rw [List.mem_singleton.mp hb]
        exact Nat.dvd_add ih (Nat.dvd_refl a)
    have := Nat.dvd_sub (d _ e) (Nat.dvd_refl a)
    rw [Nat.add_sub_cancel_left] at this
    have := Nat.dvd_one.mp this
    omega
theorem wp_semi (fu : Nat) {s : DS} {Q : D → DS → Prop} (hs : Ok2 s) (hq : ∀ R s', SG R → Ok2 s' → Q (.tuple (rowD R)) s') : Wp (m__law_semigroup fu [none, some (.int 9), some (.int 3)] s) Q := by
  unfold m__law_semigroup
  simp_arith []
  refine wp_drawI hs (by decide) (by decide) fun k s1 hk hs1 => ?_
  simp_arith []
  rw [rangeD_map0]
  refine wp_lcI (α := Nat) (β := Nat) Ok2 (fun b => 2 ≤ b ∧ b ≤ 9) (fun b => .int (b : Int)) _ s1 hs1 (fun x hx s hs => ?_) (fun bs s2 hl hP hs2 => ?_)
  · simp_arith []
    refine wp_drawI hs (by decide) (by decide) fun v s' hv hs' => ?_
    simp_arith []
    exact ⟨_, rfl, by omega, hs'⟩
  · rw [List.length_range] at hl
    have er : bs.map (fun b : Nat => PyData.int (b : Int)) = rowD bs := rfl
    rw [er]
    have hne : bs ≠ [] := fun z => by rw [z] at hl; simp at hl; omega
    have t1 := e_lcommon fu (xs := bs) (.inr rfl)
    obtain ⟨g0, g1⟩ := gcdL_div (fun x hx => by have := hP x hx; omega) hne
    have gle : ∀ x ∈ bs, 0 < x / gcdL bs ∧ x / gcdL bs ≤ 9 := fun x hx => by
      have h1 := hP x hx
      have h2 := Nat.le_of_dvd (by omega) (gcdL_dvd hx)
      exact ⟨Nat.div_pos h2 g0, Nat.le_trans (Nat.div_le_self _ _) h1.2⟩
    have gb : gcdL bs ≤ 9 := by
      obtain ⟨x, hx⟩ := List.exists_mem_of_ne_nil bs hne
      have h1 := hP x hx
      have := Nat.le_of_dvd (by omega) (gcdL_dvd hx)
      omega
    simp_arith [t1]
    refine wp_lcA (l := bs) (f := fun b : Nat => .int (b : Int)) (fun b : Nat => .int ((b / gcdL bs : Nat) : Int)) (fun b hb => ?_) ?_
    · simp_arith []
    · have er2 : bs.map (fun b : Nat => PyData.int ((b / gcdL bs : Nat) : Int)) = rowD (bs.map fun b => b / gcdL bs) := by unfold rowD; rw [List.map_map]; rfl
      rw [er2]
      obtain ⟨R, t2, L, lR⟩ := e_lleast fu (xs := bs.map fun b => b / gcdL bs) (fun x hx => by
        obtain ⟨y, hy, rfl⟩ := List.mem_map.mp hx
        have := gle y hy
        omega) (by rw [List.length_map]; omega) (rd := .list (rowD (bs.map fun b => b / gcdL bs))) (.inr rfl)
      rw [List.length_map] at lR
      simp_arith [t2]
      refine wp_ifp (fun h2 => ?_) (fun h2 => ?_)
      · simp_arith []
        refine wp_drawI hs2 (by decide) (by decide) fun v s3 hv hs3 => ?_
        simp_arith []
        have := hq [2 + v, 2 + v + 1] s3 ⟨by simp, fun x hx => by simp at hx; omega, by simp, ?_, fun x hx => ?_⟩ hs3
        · exact this
        · unfold gcdL
          simp
        · exact least_two (by omega) x hx
      · simp_arith []
        refine hq R s2 ⟨L.asc, fun x hx => ?_, by omega, L.gcdEq.trans g1, L.least⟩ hs2
        obtain ⟨y, hy, rfl⟩ := List.mem_map.mp (L.sub x hx)
        have := gle y hy
        omega
/-- what a gluing is made of -/
structure Glu (one other : List Nat) (most a b : Nat) (row : List Nat) : Prop where
  ha : El other a ∧ a ∉ other ∧ 2 ≤ a ∧ a ≤ 60
  hb : El one b ∧ b ∉ one ∧ 2 ≤ b ∧ b ≤ 60
  gcd : Nat.gcd a b = 1
  eq : row = srt (one.map (fun x => a * x) ++ other.map fun x => b * x)
  le : ∀ x ∈ row, x ≤ most
theorem bs_list {rd : D} {one : List Nat} {v : Nat} {te : EM DS} {tt : TM DS} {tg : GM} {ρ : Slots} {s : DS} {Q : List D → DS → Prop}
    (h : ∀ i, i < 59 → gTt tt (tg (.int ((2 + i : Nat) : Int)) ρ) s = some (elb one (2 + i) && !decide (2 + i ∈ one), s) ∧ gTt te (tg (.int ((2 + i : Nat) : Int)) ρ) s = some (.int ((2 + i : Nat) : Int), s))
    (hq : ∀ bs : List Nat, (∀ b ∈ bs, El one b ∧ b ∉ one ∧ 2 ≤ b ∧ b ≤ 60) → bs.length ≤ 59 → Q (rowD bs) s) : Wp (lcGo tg tt te ρ (rangeD 2 59) s) Q := by
  rw [show rangeD 2 59 = (List.range 59).map fun i : Nat => .int ((2 + i : Nat) : Int) from rangeD_map 2 59]
  refine wp_lc (fun i => elb one (2 + i) && !decide (2 + i ∈ one)) (fun i => .int ((2 + i : Nat) : Int)) (fun i hi => ⟨(h i (List.mem_range.mp hi)).1, fun _ => (h i (List.mem_range.mp hi)).2⟩) ?_
  have er : ∀ l : List Nat, l.map (fun i : Nat => PyData.int ((2 + i : Nat) : Int)) = rowD (l.map fun i => 2 + i) := fun l => by unfold rowD; rw [List.map_map]; rfl
  rw [er]
  refine hq _ (fun b hb => ?_) ?_
  · obtain ⟨i, hi, rfl⟩ := List.mem_map.mp hb
    obtain ⟨h1, h2⟩ := List.mem_filter.mp hi
    have := List.mem_range.mp h1
    rw [Bool.and_eq_true, elb_iff, Bool.not_eq_true', decide_eq_false_iff_not] at h2
    exact ⟨h2.1, h2.2, by omega, by omega⟩
  · rw [List.length_map]
    refine Nat.le_trans (List.length_filter_le _ _) ?_
    rw [List.length_range]
    exact Nat.le_refl _
theorem mul_row (a : Nat) (one : List Nat) : one.map (fun x : Nat => PyData.int ((a * x : Nat) : Int)) = rowD (one.map fun x => a * x) := by unfold rowD; rw [List.map_map]; rfl
theorem take12 {bs : List Nat} : (rowD bs).take 12 = rowD (bs.take 12) := by unfold rowD; rw [List.map_take]
theorem wp_glued (fu : Nat) {one other : List Nat} {most : Nat} {s : DS} {Q : D → DS → Prop} (hs : Ok2 s) (h1 : ∀ x ∈ one, 0 < x ∧ x ≤ 1000) (h2 : ∀ x ∈ other, 0 < x ∧ x ≤ 1000) (l1 : one.length ≤ 1000) (l2 : other.length ≤ 1000) (ne : one ≠ [])
    (hn : ∀ s', Ok2 s' → Q .none s') (hq : ∀ a b row s', Glu one other most a b row → Ok2 s' → Q (.tuple [.tuple (rowD row), .int (a : Int), .int (b : Int)]) s') :
    Wp (m__law_glued fu [none, some (.tuple (rowD one)), some (.tuple (rowD other)), some (.int (most : Int))] s) Q := by
  have t1 := e_law_table fu (R := one) (fun x hx => (h1 x hx).1) (by omega) (most := 60) (by omega) (rd := .tuple (rowD one)) (.inl rfl)
  have t2 := e_law_table fu (R := other) (fun x hx => (h2 x hx).1) (by omega) (most := 60) (by omega) (rd := .tuple (rowD other)) (.inl rfl)
  have t1 : m__law_table fu [some (.tuple (rowD one)), some (.int 60)] () = some (.list (tab (elb one) 61), ()) := t1
  have t2 : m__law_table fu [some (.tuple (rowD other)), some (.int 60)] () = some (.list (tab (elb other) 61), ()) := t2
  unfold m__law_glued
  simp_arith [t1, t2]
  refine bs_list (rd := .none) (one := one) (v := 0) (fun i hi => ⟨?_, by simp_arith []⟩) (fun bs hbs lbs => ?_)
  · have n1 := dNin_rowT (2 + i) one
    simp_arith [n1]
  · simp_arith []
    refine bs_list (rd := .none) (one := other) (v := 0) (fun i hi => ⟨?_, by simp_arith []⟩) (fun cs hcs lcs => ?_)
    · have n1 := dNin_rowT (2 + i) other
      simp_arith [n1]
    · simp_arith []
      by_cases hne : bs.isEmpty = false ∧ cs.isEmpty = false
      · obtain ⟨b0, c0⟩ := hne
        simp_arith [b0, c0]
        have hbs0 : 0 < (bs.take 12).length := by
          cases bs with
          | nil => cases b0
          | cons x r => simp
        have hcs0 : 0 < (cs.take 12).length := by
          cases cs with
          | nil => cases c0
          | cons x r => simp
        refine wp_forR0 (n := 12) (fun _ ρ s => Ok2 s ∧ ∃ x6 x9 x10 x11 x12, ρ = [none, some (.tuple (rowD one)), some (.tuple (rowD other)), some (.int (most : Int)), some (.list (tab (elb one) 61)), some (.list (tab (elb other) 61)), x6, some (.list (rowD bs)), some (.list (rowD cs)), x9, x10, x11, x12]) ⟨hs, _, _, _, _, _, rfl⟩ ?_ ?_
        · rintro i hi _ s ⟨hs, x6, x9, x10, x11, x12, rfl⟩
          have sl1 : dSl (.list (rowD cs)) none (some 12) = some (.list (rowD (cs.take 12))) := by rw [← take12]; exact y_slT (rowD cs) 12
          have sl2 : dSl (.list (rowD bs)) none (some 12) = some (.list (rowD (bs.take 12))) := by rw [← take12]; exact y_slT (rowD bs) 12
          simp_arith [sl1]
          refine wp_pick hs (by rw [y_rowlen]; exact hcs0) (by rw [y_rowlen, List.length_take]; omega) fun d hd s1 hs1 => ?_
          obtain ⟨a, ha, rfl⟩ := List.mem_map.mp hd
          have ha := hcs a (List.mem_of_mem_take ha)
          simp_arith [sl2]
          refine wp_pick hs1 (by rw [y_rowlen]; exact hbs0) (by rw [y_rowlen, List.length_take]; omega) fun d hd s2 hs2 => ?_
          obtain ⟨b, hb, rfl⟩ := List.mem_map.mp hd
          have hb := hbs b (List.mem_of_mem_take hb)
          simp_arith []
          refine wp_lcA (l := one) (f := fun x : Nat => .int (x : Int)) (fun x : Nat => .int ((a * x : Nat) : Int)) (fun x hx => by have := h1 x hx; simp_arith []) ?_
          rw [mul_row a one]
          simp_arith []
          refine wp_lcA (l := other) (f := fun x : Nat => .int (x : Int)) (fun x : Nat => .int ((b * x : Nat) : Int)) (fun x hx => by have := h2 x hx; simp_arith []) ?_
          rw [mul_row b other]
          have la : (rowD (one.map fun x => a * x)).length ≤ 1000 := by rw [y_rowlen, List.length_map]; exact l1
          have lb : (rowD (other.map fun x => b * x)).length ≤ 1000 := by rw [y_rowlen, List.length_map]; exact l2
          have app : rowD (one.map fun x => a * x) ++ rowD (other.map fun x => b * x) = rowD (one.map (fun x => a * x) ++ other.map fun x => b * x) := by unfold rowD; rw [List.map_append]
          have so := srt_l (one.map (fun x => a * x) ++ other.map fun x => b * x)
          have pm := srt_perm (one.map (fun x => a * x) ++ other.map fun x => b * x)
          obtain ⟨row, hrow⟩ : ∃ row, row = srt (one.map (fun x => a * x) ++ other.map fun x => b * x) := ⟨_, rfl⟩
          rw [← hrow] at so pm
          have rne : row ≠ [] := fun z => by
            have := pm.length_eq
            rw [z, List.length_append, List.length_map] at this
            have := List.length_pos_iff.mpr ne
            simp at *
            omega
          obtain ⟨M, gm, _, gm1, gm2⟩ := gMaxG_row rne
          have t3 := e_gcdB fu (max a b) (min a b)
          rw [gcd_mm] at t3
          simp_arith [la, lb, app, so, t3, gm]
          by_cases hg : Nat.gcd a b = 1
          · by_cases hM : M ≤ most
            · simp_arith [hg, hM]
              exact hq a b row s2 ⟨ha, hb, hg, hrow, fun x hx => Nat.le_trans (gm2 x hx) hM⟩ hs2
            · simp_arith [hg, hM, gm]
              exact ⟨hs2, _, _, _, _, _, rfl⟩
          · simp_arith [hg]
            exact ⟨hs2, _, _, _, _, _, rfl⟩
        · rintro _ s ⟨hs, x6, x9, x10, x11, x12, rfl⟩
          simp_arith []
          exact hn s hs
      · have e0 : (!bs.isEmpty && !cs.isEmpty) = false := by
          cases h1 : bs.isEmpty <;> cases h2 : cs.isEmpty <;> simp_all
        simp_arith [e0]
        refine wp_forR0 (n := 0) (fun _ ρ s => Ok2 s) hs (fun i hi => absurd hi (by omega)) (fun ρ s h => ?_)
        simp_arith []
        exact hn s h
theorem El.zero_all {R : List Nat} {n : Nat} (h : El R n) : El R n := h
theorem nsg_bound {R : List Nat} {c g m M : Nat} (N : Nsg R c g) (hp : ∀ x ∈ R, 0 < x) (hm : m ∈ R) (hM : ∀ x ∈ R, x ≤ M) : c ≤ m * M := by
  obtain ⟨ap, A⟩ := ap_ex (hp m hm) (El.mem hm) N.gcd
  rcases Nat.eq_zero_or_pos c with z | z
  · omega
  · have h1 : ¬ ap ((c - 1) % m) ≤ c - 1 := fun y => N.last (c - 1) (by omega) ((A.iff _).mpr y)
    have h2 := A.bound hp hM (Nat.mod_lt (c - 1) A.pos)
    have h3 : (m - 1) * M ≤ m * M := Nat.mul_le_mul_right _ (by omega)
    omega
theorem nsg_two {R : List Nat} {c g : Nat} (N : Nsg R c g) (h : 0 < c) : 2 ≤ c := by
  refine Decidable.byContradiction fun z => N.last 0 (by omega) .zero
theorem gapsL_len' {R : List Nat} {c g most : Nat} (N : Nsg R c g) (h : c ≤ most + 1) : (gapsL R most).length = g := by
  rw [← N.gen (most + 1) h, List.range_succ_eq_map, List.filter_cons_of_neg (by simp [elb_zero]), List.filter_map, List.length_map]
  unfold gapsL
  rw [List.length_map]
  rfl
theorem gapsL_nil {R : List Nat} {g most : Nat} (N : Nsg R 0 g) : gapsL R most = [] := by
  refine List.eq_nil_iff_forall_not_mem.mpr fun x hx => ?_
  exact (gapsL_mem.mp hx).2.2 (N.top x (Nat.zero_le x))
theorem gapsL_max {R : List Nat} {c g most : Nat} (N : Nsg R c g) (h : c ≤ most + 1) (h0 : 0 < c) : gMaxG [.list (rowD (gapsL R most))] = some (.int ((c - 1 : Nat) : Int)) ∧ gapsL R most ≠ [] := by
  have h2 := nsg_two N h0
  have hin : c - 1 ∈ gapsL R most := gapsL_mem.mpr ⟨by omega, by omega, N.last (c - 1) (by omega)⟩
  have hne := List.ne_nil_of_mem hin
  obtain ⟨M, _, g2, g3, g4⟩ := gMaxG_row hne
  have h5 := g4 _ hin
  have h6 : ¬ c ≤ M := fun z => (gapsL_mem.mp g3).2.2 (N.top M z)
  have : M = c - 1 := by omega
  subst this
  exact ⟨g2, hne⟩
theorem asc_le {R : List Nat} (h : R.Pairwise (· < ·)) : R.Pairwise (· ≤ ·) := h.imp fun h => by omega
theorem le_ends {R : List Nat} (h : R.Pairwise (· ≤ ·)) (hne : R ≠ []) : ∃ m M, R[0]? = some m ∧ m ∈ R ∧ R[R.length - 1]? = some M ∧ M ∈ R ∧ (∀ x ∈ R, m ≤ x) ∧ ∀ x ∈ R, x ≤ M := by
  have l0 := List.length_pos_iff.mpr hne
  refine ⟨R[0], R[R.length - 1], List.getElem?_eq_getElem l0, List.getElem_mem _, List.getElem?_eq_getElem (by omega), List.getElem_mem _, fun x hx => ?_, fun x hx => ?_⟩
  · obtain ⟨i, hi, rfl⟩ := List.getElem_of_mem hx
    rcases Nat.eq_zero_or_pos i with z | z
    · subst z
      exact Nat.le_refl _
    · exact List.pairwise_iff_getElem.mp h 0 i l0 hi z
  · obtain ⟨i, hi, rfl⟩ := List.getElem_of_mem hx
    rcases Nat.lt_or_ge i (R.length - 1) with z | z
    · exact List.pairwise_iff_getElem.mp h i (R.length - 1) hi (by omega) z
    · have : i = R.length - 1 := by omega
      subst this
      exact Nat.le_refl _
theorem e_lgaps (fu : Nat) {R : List Nat} {m M : Nat} (hp : ∀ x ∈ R, 0 < x ∧ x ≤ 300) (hl : R.length ≤ 1000) (hm : R[0]? = some m) (hM : R[R.length - 1]? = some M) : m__law_gaps fu [some (.tuple (rowD R))] () = some (.list (rowD (gapsL R (m * M))), ()) := by
  have i0 : atI (rowD R) 0 = some (.int (m : Int)) := atI_row (n := 0) hm
  have i1 : atI (rowD R) (-1) = some (.int (M : Int)) := atI_lastm (f := fun a : Nat => PyData.int (a : Int)) hM
  have h1 := hp m (List.mem_of_getElem? hm)
  have h2 := hp M (List.mem_of_getElem? hM)
  have h3 : m * M ≤ 300 * 300 := Nat.mul_le_mul h1.2 h2.2
  have t := e_law_table fu (fun x hx => (hp x hx).1) (by omega) (most := m * M) (by omega) (rd := .tuple (rowD R)) (.inl rfl)
  refine wp_eqU ?_
  unfold m__law_gaps
  simp_arith [i0, i1, t]
  rw [rangeD_map1]
  refine wp_lc (fun i => !elb R (i + 1)) (fun i => .int ((i + 1 : Nat) : Int)) (fun i hi => ⟨?_, fun _ => by simp_arith []⟩) ?_
  · have := List.mem_range.mp hi
    simp_arith []
  · have er : ((List.range (m * M)).filter fun i => !elb R (i + 1)).map (fun i : Nat => PyData.int ((i + 1 : Nat) : Int)) = rowD (gapsL R (m * M)) := by unfold rowD gapsL; rw [List.map_map]; rfl
    have lg := gapsL_len (row := R) (most := m * M)
    rw [er]
    simp_arith []
theorem e_gg (fu : Nat) {R : List Nat} {c g : Nat} (N : Nsg R c g) (h0 : 0 < c) (hp : ∀ x ∈ R, 0 < x ∧ x ≤ 300) (hne : R ≠ []) :
    m_greatest_gap fu [some (.tuple (rowD R))] () = some (.int ((c - 1 : Nat) : Int), ()) ∧ m_genus fu [some (.tuple (rowD R))] () = some (.int (g : Nat), ()) := by
  obtain ⟨m, M, ap, sg, er, em⟩ := sg_of (fun x hx => (hp x hx).1) (fun x hx => by have := hp x hx; omega) hne N.gcd fu (.tuple (rowD R)) (.inl rfl)
  have t1 := e_greatest_gap fu sg (.tuple (rowD R)) (.inl rfl) er em
  have t2 := e_genus fu sg (.tuple (rowD R)) (.inl rfl) er
  have t3 := genus_gaps sg (N := c) (fun n hn => by
    refine Decidable.byContradiction fun z => hn (N.top n (by omega)))
  rw [gapsL_len' N (by omega)] at t3
  rw [← t3] at t2
  obtain ⟨k1, k2⟩ := sg.least.gap sg.mem sg.max
  have h1 := k1 (c - 1) (N.last (c - 1) (by omega))
  have h2 : ¬ c ≤ M - m := fun z => k2 (by omega) (N.top _ z)
  have : (M : Int) - (m : Int) = ((c - 1 : Nat) : Int) := by omega
  rw [this] at t1
  exact ⟨t1, t2⟩
theorem gcdL_mul {a : Nat} {R : List Nat} (hg : gcdL R = 1) (hne : R ≠ []) : gcdL (R.map fun x => a * x) = a := by
  refine Nat.dvd_antisymm ?_ (dvd_gcdL fun y hy => ?_)
  · have key : ∀ (xs : List Nat) (u : Nat), (xs.map fun x => a * x).foldl Nat.gcd (a * u) = a * xs.foldl Nat.gcd u := fun xs => by
      induction xs with
      | nil => exact fun u => rfl
      | cons x xs ih => exact fun u => by rw [List.map_cons, List.foldl_cons, Nat.gcd_mul_left, ih, List.foldl_cons]
    have := key R 0
    rw [Nat.mul_zero] at this
    unfold gcdL at hg ⊢
    rw [this, hg, Nat.mul_one]
    exact Nat.dvd_refl a
  · obtain ⟨x, _, rfl⟩ := List.mem_map.mp hy
    exact Nat.dvd_mul_right a x
theorem el_mul {a n : Nat} {R : List Nat} (h : El R n) : El (R.map fun x => a * x) (a * n) := by
  induction h with
  | zero => exact .zero
  | @step n x hx _ ih => rw [Nat.mul_add]; exact .step (List.mem_map.mpr ⟨x, hx, rfl⟩) ih
theorem e_is_gluing (fu : Nat) {F S row : List Nat} {p q f : Nat} (hF : F.Pairwise (· ≤ ·)) (hS : S.Pairwise (· ≤ ·)) (hr : srt (F ++ S) = row) (bF : ∀ x ∈ F, 0 < x ∧ x ≤ 1000) (bS : ∀ x ∈ S, 0 < x ∧ x ≤ 1000) (lF : F.length ≤ 100) (lS : S.length ≤ 100)
    (hp : gcdL F = p) (hq : gcdL S = q) (p2 : 2 ≤ p ∧ p ≤ 1000) (q2 : 2 ≤ q ∧ q ≤ 60) (p3 : p ≤ 60) (hg : Nat.gcd p q = 1) (eF : El F (p * q)) (eS : El S (p * q)) (f0 : F[0]? = some f) (r0 : row[0]? = some f) (neS : S ≠ []) :
    m_is_gluing fu [some (.tuple (rowD row)), some (.tuple (rowD F)), some (.tuple (rowD S))] () = some (.bool true, ()) := by
  have pq : p * q ≤ 60 * 60 := Nat.mul_le_mul p3 q2.2
  have i0 : atI (rowD F) 0 = some (.int (f : Int)) := atI_row (n := 0) f0
  have i1 : atI (rowD row) 0 = some (.int (f : Int)) := atI_row (n := 0) r0
  have s1 := srt_t F
  rw [srt_self hF] at s1
  have s2 := srt_t S
  rw [srt_self hS] at s2
  have s3 := srt_t (F ++ S)
  rw [hr] at s3
  have app : rowD F ++ rowD S = rowD (F ++ S) := by unfold rowD; rw [List.map_append]
  have n1 : dNe (.list (rowD F)) (.list (rowD F)) = some (.bool false) := dNe_self (shaped_row _)
  have n2 : dNe (.list (rowD S)) (.list (rowD S)) = some (.bool false) := dNe_self (shaped_row _)
  have n3 : dNe (.list (rowD row)) (.list (rowD row)) = some (.bool false) := dNe_self (shaped_row _)
  have c1 := e_common fu (xs := F) (fun x hx => by have := bF x hx; omega) (rd := .tuple (rowD F)) (.inl rfl)
  have c2 := e_common fu (xs := S) (fun x hx => by have := bS x hx; omega) (rd := .tuple (rowD S)) (.inl rfl)
  rw [hp] at c1
  rw [hq] at c2
  have lF0 : ¬ F.length = 0 := fun z => by rw [List.length_eq_zero_iff.mp z] at f0; cases f0
  have lS0 : ¬ S.length = 0 := fun z => neS (List.length_eq_zero_iff.mp z)
  have sum : ∀ (G : List Nat), (∀ x ∈ G, 0 < x ∧ x ≤ 1000) → G.length ≤ 100 → El G (p * q) → m_is_sum fu [some (.tuple (rowD G)), some (.int ((p * q : Nat) : Int))] () = some (.bool true, ()) := fun G bG lG eG => by
    have t := e_table_of fu (fun x hx => (bG x hx).1) (by omega) (most := p * q) (by omega) (rd := .tuple (rowD G)) (.inl rfl)
    have e := elb_iff.mpr eG
    refine wp_eqU ?_
    unfold m_is_sum
    simp_arith [t, e]
  have t1 := sum F bF lF eF
  have t2 := sum S bS lS eS
  have mn : (1 < min p q) = True := eq_true (by omega)
  refine wp_eqU ?_
  unfold m_is_gluing
  simp_arith [lF0, lS0, s1, s2, n1, n2, app, s3, n3, i0, i1, c1, c2, mn, hg, t1, t2]
theorem Glu.glr {one other : List Nat} {most a b : Nat} {row : List Nat} (G : Glu one other most a b row) : GlR a b one other row := fun x => by
  rw [G.eq, (srt_perm _).mem_iff, List.mem_append, List.mem_map, List.mem_map]
  constructor
  · rintro (⟨y, hy, e⟩ | ⟨y, hy, e⟩)
    · exact .inl ⟨y, hy, e.symm⟩
    · exact .inr ⟨y, hy, e.symm⟩
  · rintro (⟨y, hy, e⟩ | ⟨y, hy, e⟩)
    · exact .inl ⟨y, hy, e.symm⟩
    · exact .inr ⟨y, hy, e.symm⟩
theorem Glu.nsg {one other : List Nat} {most a b : Nat} {row : List Nat} (G : Glu one other most a b row) {c1 g1 c2 g2 : Nat} (N1 : Nsg one c1 g1) (N2 : Nsg other c2 g2) :
    ∃ c g, Nsg row c g ∧ c + a + b = a * c1 + b * c2 + a * b + 1 ∧ 2 * g + a + b = 2 * (a * g1) + 2 * (b * g2) + a * b + 1 :=
  glue_nsg N1 N2 G.ha.1 G.hb.1 (by have := G.ha; omega) (by have := G.hb; omega) G.gcd G.glr
theorem Glu.pos {one other : List Nat} {most a b : Nat} {row : List Nat} (G : Glu one other most a b row) (h1 : ∀ x ∈ one, 0 < x) (h2 : ∀ x ∈ other, 0 < x) : ∀ x ∈ row, 0 < x ∧ x ≤ most := fun x hx => by
  refine ⟨?_, G.le x hx⟩
  have ha := G.ha
  have hb := G.hb
  rcases (G.glr x).mp hx with ⟨y, hy, rfl⟩ | ⟨y, hy, rfl⟩
  · exact Nat.mul_pos (by omega) (h1 y hy)
  · exact Nat.mul_pos (by omega) (h2 y hy)
theorem Glu.len {one other : List Nat} {most a b : Nat} {row : List Nat} (G : Glu one other most a b row) : row.length = one.length + other.length := by
  rw [G.eq, (srt_perm _).length_eq, List.length_append, List.length_map, List.length_map]
theorem half {a b c g g1 g2 : Nat} (ha : 2 ≤ a) (hb : 2 ≤ b) (h : 2 * g + a + b = 2 * (a * g1) + 2 * (b * g2) + a * b + 1) : a * g1 + b * g2 + (a - 1) * (b - 1) / 2 = g := by
  obtain ⟨p, rfl⟩ : ∃ p, a = p + 1 := ⟨a - 1, by omega⟩
  obtain ⟨q, rfl⟩ : ∃ q, b = q + 1 := ⟨b - 1, by omega⟩
  rw [Nat.add_sub_cancel, Nat.add_sub_cancel]
  have : (p + 1) * (q + 1) = p * q + p + q + 1 := by grind
  generalize (p + 1) * g1 = x at *
  generalize (q + 1) * g2 = y at *
  generalize (p + 1) * (q + 1) = z at *
  generalize p * q = w at *
  omega
theorem gapI {a b c c1 c2 : Nat} (h : c + a + b = a * c1 + b * c2 + a * b + 1) : (a : Int) * ((c1 : Int) - 1) + (b : Int) * ((c2 : Int) - 1) + ((a * b : Nat) : Int) = (c : Int) - 1 := by
  have h : ((c + a + b : Nat) : Int) = ((a * c1 + b * c2 + a * b + 1 : Nat) : Int) := by rw [h]
  push_cast at h ⊢
  rw [Int.mul_sub, Int.mul_sub]
  omega
theorem nsg_even {a b c g c1 c2 g1 g2 : Nat} (h : c + a + b = a * c1 + b * c2 + a * b + 1) (h2 : 2 * g + a + b = 2 * (a * g1) + 2 * (b * g2) + a * b + 1) (e1 : 2 * g1 = c1) (e2 : 2 * g2 = c2) : 2 * g = c := by
  subst e1
  subst e2
  rw [Nat.mul_left_comm a, Nat.mul_left_comm b] at h
  omega
structure TrOk (n : Nat) (d : D) (R : List Nat) : Prop where
  ex : ∃ c g, Nsg R c g ∧ 2 * g = c ∧ (∀ r, n ≤ r → m_gap_of_tree fuel r [some d] () = some (.int ((c : Int) - 1), ())) ∧ (∀ r, n ≤ r → m_genus_of_tree fuel r [some d] () = some (.int (g : Int), ()))
  pos : ∀ x ∈ R, 0 < x ∧ x ≤ 200
  srt : R.Pairwise (· ≤ ·)
  ne : R ≠ []
  len : R.length ≤ n
  sh : G.Sh n d
theorem tr_one {n : Nat} (hn : 1 ≤ n) : TrOk n (.int 1) [1] := by
  refine ⟨⟨0, 0, nsg_one, rfl, fun r hr => ?_, fun r hr => ?_⟩, fun x hx => by rw [List.mem_singleton.mp hx]; decide, List.pairwise_singleton _ _, by simp, by simpa using hn, G.Sh.int n 1⟩
  · obtain ⟨r, rfl⟩ : ∃ k, r = k + 1 := ⟨r - 1, by omega⟩
    refine wp_eqU ?_
    unfold m_gap_of_tree
    simp_arith []
    rfl
  · obtain ⟨r, rfl⟩ : ∃ k, r = k + 1 := ⟨r - 1, by omega⟩
    refine wp_eqU ?_
    unfold m_genus_of_tree
    simp_arith []
    rfl
theorem dEq_tup1 {n : Nat} {xs : List D} (h : G.Sh n (.tuple xs)) (hn : n ≤ 60) : dEq (.tuple xs) (.int 1) = some (.bool false) := by
  unfold dEq
  rw [if_pos ⟨h.ok (by omega), (G.Sh.int 1 1).ok (by omega)⟩]
  simp [PyData.eqv]
theorem tr_node {n a b k1 k2 : Nat} {d1 d2 : D} {R1 R2 row : List Nat} (hn : n ≤ 50) (h1 : TrOk k1 d1 R1) (h2 : TrOk k2 d2 R2) (hk1 : k1 < n) (hk2 : k2 < n) (hk : k1 + k2 ≤ n) (GG : Glu R1 R2 200 a b row) : TrOk n (.tuple [.int (a : Int), .int (b : Int), d1, d2]) row := by
  obtain ⟨c1, g1, N1, e1, p1, q1⟩ := h1.ex
  obtain ⟨c2, g2, N2, e2, p2, q2⟩ := h2.ex
  obtain ⟨c, g, N, f1, f2⟩ := GG.nsg N1 N2
  have ha := GG.ha
  have hb := GG.hb
  have bound : ∀ {R : List Nat} {c g : Nat}, Nsg R c g → (∀ x ∈ R, 0 < x ∧ x ≤ 200) → R ≠ [] → c ≤ 200 * 200 := fun {R c g} N hp hne => by
    obtain ⟨m, hm⟩ := List.exists_mem_of_ne_nil R hne
    have := nsg_bound N (fun x hx => (hp x hx).1) hm (M := 200) (fun x hx => (hp x hx).2)
    exact Nat.le_trans this (Nat.mul_le_mul_right _ (hp m hm).2)
  have b1 := bound N1 h1.pos h1.ne
  have b2 := bound N2 h2.pos h2.ne
  have sh : G.Sh n (.tuple [.int (a : Int), .int (b : Int), d1, d2]) := by
    obtain ⟨k, rfl⟩ : ∃ k, n = k + 1 := ⟨n - 1, by omega⟩
    refine G.Sh.tuple fun x hx => ?_
    have hx : x = .int (a : Int) ∨ x = .int (b : Int) ∨ x = d1 ∨ x = d2 := by simpa using hx
    rcases hx with rfl | rfl | rfl | rfl
    · exact G.Sh.int _ _
    · exact G.Sh.int _ _
    · exact h1.sh.mono (by omega)
    · exact h2.sh.mono (by omega)
  have dq := dEq_tup1 sh (by omega)
  have ab : a * b ≤ 60 * 60 := Nat.mul_le_mul ha.2.2.2 hb.2.2.2
  have x1 : a * g1 ≤ 60 * 40000 := Nat.mul_le_mul ha.2.2.2 (by omega)
  have x2 : b * g2 ≤ 60 * 40000 := Nat.mul_le_mul hb.2.2.2 (by omega)
  refine ⟨⟨c, g, N, nsg_even f1 f2 e1 e2, fun r hr => ?_, fun r hr => ?_⟩, GG.pos (fun x hx => (h1.pos x hx).1) (fun x hx => (h2.pos x hx).1), by rw [GG.eq]; exact srt_le _, fun z => ?_, ?_, sh⟩
  · obtain ⟨r, rfl⟩ : ∃ k, r = k + 1 := ⟨r - 1, by omega⟩
    have t1 := p1 r (by omega)
    have t2 := p2 r (by omega)
    have key := gapI f1
    refine wp_eqU ?_
    unfold m_gap_of_tree
    simp_arith [dq, t1, t2]
    rw [key]
  · obtain ⟨r, rfl⟩ : ∃ k, r = k + 1 := ⟨r - 1, by omega⟩
    have t1 := q1 r (by omega)
    have t2 := q2 r (by omega)
    have key := half (c := c) ha.2.2.1 hb.2.2.1 f2
    refine wp_eqU ?_
    unfold m_genus_of_tree
    simp_arith [dq, t1, t2]
    rw [key]
  · have := GG.len
    rw [z] at this
    exact h1.ne (List.length_eq_zero_iff.mp (by simp at this; omega))
  · have := GG.len
    have := h1.len
    have := h2.len
    omega
theorem wp_tree : ∀ (r n : Nat) {s : DS} {Q : D → DS → Prop}, 1 ≤ n → n ≤ r → n ≤ 40 → Ok2 s → (∀ d R s', TrOk n d R → Ok2 s' → Q (.tuple [d, .tuple (rowD R)]) s') → Wp (m__law_tree fuel r [none, some (.int (n : Int))] s) Q := by
  intro r
  induction r with
  | zero => intro n s Q h1 h2; omega
  | succ r ih =>
    intro n s Q h1 h2 h3 hs hq
    unfold m__law_tree
    simp_arith []
    refine Wp.mono (Q := fun res s2 => (res = .rt (.tuple [.int 1, .tuple [.int 1]]) ∧ Ok2 s2) ∨ (2 ≤ n ∧ s2 = s ∧ res = .nx [none, some (.int (n : Int)), none, none, none, none, none, none, none, none, none])) ?_ ?_
    · refine wp_ifp (fun h => ?_) (fun h => ?_)
      · simp_arith []
        exact .inl hs
      · simp_arith []
        right
        omega
    · rintro _ s2 (⟨rfl, hs2⟩ | ⟨h4, rfl, rfl⟩)
      · simp_arith []
        exact hq (.int 1) [1] s2 (tr_one h1) hs2
      · simp_arith []
        refine wp_draw hs (by omega) (by omega) fun v s3 hv hs3 => ?_
        simp_arith []
        refine ih (1 + v) (by omega) (by omega) (by omega) hs3 fun d1 R1 s4 T1 hs4 => ?_
        simp_arith []
        refine ih (n - (1 + v)) (by omega) (by omega) (by omega) hs4 fun d2 R2 s5 T2 hs5 => ?_
        simp_arith []
        have l1 := T1.len
        have l2 := T2.len
        refine wp_glued fuel (one := R1) (other := R2) (most := 200) hs5 (fun x hx => by have := T1.pos x hx; omega) (fun x hx => by have := T2.pos x hx; omega) (by omega) (by omega) T1.ne (fun s6 hs6 => ?_) (fun a b row s6 G hs6 => ?_)
        · simp_arith []
          exact hq (.int 1) [1] s6 (tr_one h1) hs6
        · simp_arith []
          exact hq _ row s6 (tr_node (by omega) T1 T2 (by omega) (by omega) (by omega) G) hs6
theorem row_kd (R : List Nat) (h : R.length ≤ 1000000) : Kd 1 (.tuple (rowD R)) := .tuple (fun x hx => by
  obtain ⟨a, _, rfl⟩ := List.mem_map.mp hx
  exact .int 0 _) (by rw [y_rowlen]; exact h)
structure Oth (O : List Nat) : Prop where
  asc : O.Pairwise (· < ·)
  pos : ∀ x ∈ O, 0 < x ∧ x ≤ 10
  ne : O ≠ []
  len : O.length ≤ 5
  gcd : gcdL O = 1
theorem SG.oth {R : List Nat} (h : SG R) : Oth R := ⟨h.asc, h.pos, fun z => by have := h.len; rw [z] at this; simp at this, h.len.2, h.gcd⟩
theorem oth_one : Oth [1] := ⟨List.pairwise_singleton _ _, fun x hx => by rw [List.mem_singleton.mp hx]; decide, by simp, by simp, by unfold gcdL; simp⟩
theorem sg_c1 {R : List Nat} {c g : Nat} (h : SG R) (N : Nsg R c g) : 0 < c := by
  refine Decidable.byContradiction fun z => ?_
  obtain ⟨x, hx, hle, _⟩ := (N.top 1 (by omega)).pre (by omega)
  have hx1 : x = 1 := by have := h.pos x hx; omega
  subst hx1
  have l2 := h.len
  have h01 := List.pairwise_iff_getElem.mp h.asc 0 1 (by omega) (by omega) (by omega)
  have hy : R[1] ∈ R := List.getElem_mem _
  have p0 := h.pos R[0] (List.getElem_mem _)
  refine h.least R[1] hy ?_
  have all : ∀ n, El (R.filter fun y => decide (y < R[1])) n := fun n => by
    induction n with
    | zero => exact .zero
    | succ n ih => exact .step (List.mem_filter.mpr ⟨hx, decide_eq_true (by omega)⟩) ih
  exact all _
theorem one_c {c g : Nat} (N : Nsg [1] c g) : c = 0 := by
  refine Decidable.byContradiction fun z => N.last (c - 1) (by omega) (nsg_one.top _ (Nat.zero_le _))
theorem e_glue (fu : Nat) {one other : List Nat} {most a b : Nat} {row : List Nat} (G : Glu one other most a b row) (h1 : ∀ x ∈ one, x ≤ 1000) (h2 : ∀ x ∈ other, x ≤ 1000) (l1 : one.length ≤ 1000) (l2 : other.length ≤ 1000) :
    m_glue fu [some (.tuple (rowD one)), some (.tuple (rowD other)), some (.int (a : Int)), some (.int (b : Int))] () = some (.tuple (rowD row), ()) := by
  have ha := G.ha
  have hb := G.hb
  refine wp_eqU ?_
  unfold m_glue
  simp_arith []
  refine wp_lcA (l := one) (f := fun x : Nat => .int (x : Int)) (fun x : Nat => .int ((a * x : Nat) : Int)) (fun x hx => by have := h1 x hx; simp_arith []) ?_
  rw [mul_row a one]
  simp_arith []
  refine wp_lcA (l := other) (f := fun x : Nat => .int (x : Int)) (fun x : Nat => .int ((b * x : Nat) : Int)) (fun x hx => by have := h2 x hx; simp_arith []) ?_
  rw [mul_row b other]
  have la : (rowD (one.map fun x => a * x)).length ≤ 1000 := by rw [y_rowlen, List.length_map]; exact l1
  have lb : (rowD (other.map fun x => b * x)).length ≤ 1000 := by rw [y_rowlen, List.length_map]; exact l2
  have app : rowD (one.map fun x => a * x) ++ rowD (other.map fun x => b * x) = rowD (one.map (fun x => a * x) ++ other.map fun x => b * x) := by unfold rowD; rw [List.map_append]
  have so := srt_l (one.map (fun x => a * x) ++ other.map fun x => b * x)
  rw [← G.eq] at so
  simp_arith [la, lb, app, so]
theorem mul_srt {a : Nat} {R : List Nat} (h : R.Pairwise (· < ·)) : (R.map fun x => a * x).Pairwise (· ≤ ·) := List.pairwise_map.mpr (h.imp fun h => Nat.mul_le_mul_left _ (by omega))
theorem slots16 (ρ : Slots) (h : ρ.length = 16) : ∃ a0 a1 a2 a3 a4 a5 a6 a7 a8 a9 a10 a11 a12 a13 a14 a15, ρ = [a0, a1, a2, a3, a4, a5, a6, a7, a8, a9, a10, a11, a12, a13, a14, a15] := by
  match ρ, h with
  | [a0, a1, a2, a3, a4, a5, a6, a7, a8, a9, a10, a11, a12, a13, a14, a15], _ => exact ⟨_, _, _, _, _, _, _, _, _, _, _, _, _, _, _, _, rfl⟩
theorem law_tail {s : DS} {a0 a1 a2 a3 a4 a5 a6 a7 a8 a9 a10 a11 a12 a13 a14 a15 : Option D} (hs : Ok2 s) : Wp ((sSeq (sTg (eCallS (m__law_tree fuel 12) (lCons (eOp2 dAdd (eC (.int 1)) (eCallS m_draw (lCons (eC (.int 6)) lNil))) lNil)) (gT 2 (gsC (gN 15) (gsC (gN 6) gsN))))
  (sSeq (sSet 9 (eIf (tOf (eOp2 dNe (eVar 6) (eTup (lCons (eC (.int 1)) lNil)))) (eCallP (m__law_gaps fuel) (lCons (eVar 6) lNil)) (eLst lNil)))
  (sSeq (sIf (tOo (tNo (tTr (eCallP (m__law_eq fuel 12) (lCons (eCallP (m_gap_of_tree fuel 12) (lCons (eVar 15) lNil)) (lCons (eIf (tOf (eOp2 dNe (eVar 9) (eLst lNil))) (eCall gMaxG (lCons (eVar 9) lNil)) (eOp1 dNeg (eC (.int 1)))) lNil))))) (tNo (tTr (eCallP (m__law_eq fuel 12) (lCons (eCallP (m_genus_of_tree fuel 12) (lCons (eVar 15) lNil)) (lCons (eCall gLen (lCons (eVar 9) lNil)) lNil))))))
  (sRet (eC (.bool false)))
  sNx)
  (sRet (eOr (eOp2 dEq (eVar 9) (eLst lNil)) (eOp2 dEq (eOp2 dMul (eC (.int 2)) (eCall gLen (lCons (eVar 9) lNil))) (eOp2 dAdd (eCall gMaxG (lCons (eVar 9) lNil)) (eC (.int 1)))))))))
    [a0, a1, a2, a3, a4, a5, a6, a7, a8, a9, a10, a11, a12, a13, a14, a15] s) fun r _ => r = .rt (.bool true) := by
  simp_arith []
  refine wp_drawI hs (by decide) (by decide) fun v s1 hv hs1 => ?_
  simp_arith []
  refine wp_tree 12 (1 + v) (by omega) (by omega) (by omega) hs1 fun d R s2 T hs2 => ?_
  obtain ⟨c, g, N, e2, p, q⟩ := T.ex
  obtain ⟨m, M, hm, hmR, hM, hMR, hlo, hhi⟩ := le_ends T.srt T.ne
  have t := e_lgaps fuel (R := R) (m := m) (M := M) (fun x hx => by have := T.pos x hx; omega) (by have := T.len; omega) hm hM
  have cb := nsg_bound N (fun x hx => (T.pos x hx).1) hmR hhi
  have n1 : dNe (.tuple (rowD R)) (.tuple [.int 1]) = some (.bool (!decide (R = [1]))) := dNe_rowsT R [1]
  have p12 := p 12 (by omega)
  have q12 := q 12 (by omega)
  have lg := gapsL_len' N (most := m * M) (by omega)
  simp_arith [n1]
  refine Wp.mono (Q := fun d s3 => s3 = s2 ∧ d = .list (rowD (gapsL R (m * M)))) ?_ ?_
  · by_cases h1 : R = [1]
    · have hc : c = 0 := one_c (g := g) (by rw [← h1]; exact N)
      subst hc
      rw [gapsL_nil N]
      have h1' : decide (R = [1]) = true := decide_eq_true h1
      simp_arith [h1']
      rfl
    · have h1' : decide (R = [1]) = false := decide_eq_false h1
      simp_arith [h1', t]
  · rintro _ s3 ⟨rfl, rfl⟩
    have k2 : m__law_eq fuel 12 [some (.int (g : Int)), some (.int (g : Int))] () = some (.bool true, ()) := e_eq fuel (Kd.int 0 _) 12 (by decide)
    rcases Nat.eq_zero_or_pos c with z | z
    · subst z
      have ge := gapsL_nil (most := m * M) N
      have g0 : g = 0 := by omega
      subst g0
      rw [ge]
      have rn : rowD [] = [] := rfl
      have p12 : m_gap_of_tree fuel 12 [some d] () = some (.int (-1), ()) := p12
      have k1 : m__law_eq fuel 12 [some (.int (-1)), some (.int (-1))] () = some (.bool true, ()) := e_eq fuel (Kd.int 0 _) 12 (by decide)
      have q12 : m_genus_of_tree fuel 12 [some d] () = some (.int 0, ()) := q12
      have k2 : m__law_eq fuel 12 [some (.int 0), some (.int ((0 : Nat) : Int))] () = some (.bool true, ()) := k2
      simp_arith [rn, p12, k1, q12, k2]
    · obtain ⟨mx, ne⟩ := gapsL_max N (most := m * M) (by omega) z
      have ie : (gapsL R (m * M)).isEmpty = false := by
        cases e : gapsL R (m * M) with
        | nil => exact absurd e ne
        | cons a r => rfl
      have ec : (c : Int) - 1 = ((c - 1 : Nat) : Int) := by omega
      rw [ec] at p12
      have k1 : m__law_eq fuel 12 [some (.int ((c - 1 : Nat) : Int)), some (.int ((c - 1 : Nat) : Int))] () = some (.bool true, ()) := e_eq fuel (Kd.int 0 _) 12 (by decide)
      have fin : 2 * g = c - 1 + 1 := by omega
      have mM : m * M ≤ 200 * 200 := Nat.mul_le_mul (T.pos m hmR).2 (T.pos M hMR).2
      simp_arith [ie, p12, mx, k1, q12, lg, k2, fin]
theorem law_true : ∀ ns : List Int, ns.length ≤ 63 → ∃ s', b_law fuel (List.replicate 16 none) (stateOf ns) = some (.rt (.bool true), s') := by
  intro ns hns
  suffices h : Wp (b_law fuel (List.replicate 16 none) (stateOf ns)) fun r _ => r = .rt (.bool true) by
    obtain ⟨r, s', e, rfl⟩ := h
    exact ⟨s', e⟩
  unfold b_law
  simp_arith []
  refine wp_forR0 (n := 2) (fun _ ρ s => ρ.length = 16 ∧ Ok2 s) ⟨rfl, stateOf_ok2 ns⟩ ?_ ?_
  · rintro i hi ρ s ⟨hρ, hs⟩
    obtain ⟨a0, a1, a2, a3, a4, a5, a6, a7, a8, a9, a10, a11, a12, a13, a14, a15, rfl⟩ := slots16 ρ hρ
    clear hρ
    simp_arith []
    refine wp_semi fuel hs fun R1 s1 S1 hs1 => ?_
    simp_arith []
    refine wp_semi fuel hs1 fun R2 s2 S2 hs2 => ?_
    simp_arith []
    refine wp_pick hs2 (by simp) (by simp) fun d hd s3 hs3 => ?_
    obtain ⟨O, rfl, oth, alt⟩ : ∃ O, d = .tuple (rowD O) ∧ Oth O ∧ (O = [1] ∨ SG O) := by
      have hd : d = .tuple [.int 1] ∨ d = .tuple (rowD R2) := by simpa using hd
      rcases hd with rfl | rfl
      · exact ⟨[1], rfl, oth_one, .inl rfl⟩
      · exact ⟨R2, rfl, S2.oth, .inr S2⟩
    have o1 := S1.oth
    have l1 := o1.len
    have l2 := oth.len
    simp_arith []
    refine wp_glued fuel (one := R1) (other := O) (most := 120) hs3 (fun x hx => by have := o1.pos x hx; omega) (fun x hx => by have := oth.pos x hx; omega) (by omega) (by omega) o1.ne (fun s4 hs4 => ?_) (fun a b row s4 G hs4 => ?_)
    · simp_arith []
      exact hs4
    · have z0 : ∀ x y : D, atI [x, y] 0 = some x := fun _ _ => rfl
      have z1 : ∀ x y : D, atI [x, y] 1 = some y := fun _ _ => rfl
      have y0 : ∀ x y z : D, atI [x, y, z] 0 = some x := fun _ _ _ => rfl
      simp_arith [y0]
      refine wp_ifp (fun h8 => ?_) (fun h8 => ?_)
      · have ha := G.ha
        have hb := G.hb
        have rpos := G.pos (fun x hx => (o1.pos x hx).1) (fun x hx => (oth.pos x hx).1)
        have rne : row ≠ [] := fun z => by
          have := G.len
          rw [z] at this
          exact o1.ne (List.length_eq_zero_iff.mp (by simp at this; omega))
        have rle : row.Pairwise (· ≤ ·) := by rw [G.eq]; exact srt_le _
        obtain ⟨m, M, hm, hmR, hM, hMR, hlo, hhi⟩ := le_ends rle rne
        obtain ⟨m1, M1, hm1, hmR1, hM1, hMR1, hlo1, hhi1⟩ := le_ends (asc_le o1.asc) o1.ne
        obtain ⟨m2, M2, hm2, hmR2, hM2, hMR2, hlo2, hhi2⟩ := le_ends (asc_le oth.asc) oth.ne
        obtain ⟨c1, g1, N1⟩ := nsg_ex (fun x hx => (o1.pos x hx).1) o1.ne o1.gcd
        obtain ⟨c2, g2, N2⟩ := nsg_ex (fun x hx => (oth.pos x hx).1) oth.ne oth.gcd
        obtain ⟨c, g, N, f1, f2⟩ := G.nsg N1 N2
        have t := e_lgaps fuel (R := row) (m := m) (M := M) (fun x hx => by have := rpos x hx; omega) (by omega) hm hM
        have t1 := e_lgaps fuel (R := R1) (m := m1) (M := M1) (fun x hx => by have := o1.pos x hx; omega) (by omega) hm1 hM1
        have t2 := e_lgaps fuel (R := O) (m := m2) (M := M2) (fun x hx => by have := oth.pos x hx; omega) (by omega) hm2 hM2
        have cb := nsg_bound N (fun x hx => (rpos x hx).1) hmR hhi
        have cb1 := nsg_bound N1 (fun x hx => (o1.pos x hx).1) hmR1 hhi1
        have cb2 := nsg_bound N2 (fun x hx => (oth.pos x hx).1) hmR2 hhi2
        have mM : m * M ≤ 120 * 120 := Nat.mul_le_mul (rpos m hmR).2 (rpos M hMR).2
        have mM1 : m1 * M1 ≤ 10 * 10 := Nat.mul_le_mul (o1.pos m1 hmR1).2 (o1.pos M1 hMR1).2
        have mM2 : m2 * M2 ≤ 10 * 10 := Nat.mul_le_mul (oth.pos m2 hmR2).2 (oth.pos M2 hMR2).2
        have lg := gapsL_len' N (most := m * M) (by omega)
        have lg1 := gapsL_len' N1 (most := m1 * M1) (by omega)
        have lg2 := gapsL_len' N2 (most := m2 * M2) (by omega)
        have gb1 : g1 ≤ 100 := by rw [← lg1]; exact Nat.le_trans gapsL_len mM1
        have gb2 : g2 ≤ 100 := by rw [← lg2]; exact Nat.le_trans gapsL_len mM2
        have c10 := sg_c1 S1 N1
        have ab : a * b ≤ 60 * 60 := Nat.mul_le_mul ha.2.2.2 hb.2.2.2
        have abl : a + b ≤ a * b := by
          have e1 : 2 * b ≤ a * b := Nat.mul_le_mul_right _ ha.2.2.1
          have e2 : a * 2 ≤ a * b := Nat.mul_le_mul_left _ hb.2.2.1
          omega
        have c0 : 0 < c := by omega
        obtain ⟨mx, _⟩ := gapsL_max N (most := m * M) (by omega) c0
        obtain ⟨mx1, _⟩ := gapsL_max N1 (most := m1 * M1) (by omega) c10
        have nO : dNe (.tuple (rowD O)) (.tuple [.int 1]) = some (.bool (!decide (O = [1]))) := dNe_rowsT O [1]
        have w1 : a * c1 = a * (c1 - 1) + a := by
          obtain ⟨k, rfl⟩ : ∃ k, c1 = k + 1 := ⟨c1 - 1, by omega⟩
          rw [Nat.add_sub_cancel, Nat.mul_add, Nat.mul_one]
        have w1b : a * (c1 - 1) ≤ 60 * 100 := Nat.mul_le_mul ha.2.2.2 (by omega)
        have key := half (c := c) ha.2.2.1 hb.2.2.1 f2
        have x1 : a * g1 ≤ 60 * 100 := Nat.mul_le_mul ha.2.2.2 gb1
        have x2 : b * g2 ≤ 60 * 100 := Nat.mul_le_mul hb.2.2.2 gb2
        obtain ⟨k1, k2⟩ := e_gg fuel N c0 (fun x hx => by have := rpos x hx; omega) rne
        have gl := e_glue fuel G (fun x hx => by have := o1.pos x hx; omega) (fun x hx => by have := oth.pos x hx; omega) (by omega) (by omega)
        have q1 : m__law_eq fuel 12 [some (.tuple (rowD row)), some (.tuple (rowD row))] () = some (.bool true, ()) := e_eq fuel (row_kd row (by omega)) 12 (by decide)
        have q2 : m__law_eq fuel 12 [some (.int ((c - 1 : Nat) : Int)), some (.int ((c - 1 : Nat) : Int))] () = some (.bool true, ()) := e_eq fuel (Kd.int 0 _) 12 (by decide)
        have q3 : m__law_eq fuel 12 [some (.int (g : Int)), some (.int (g : Int))] () = some (.bool true, ()) := e_eq fuel (Kd.int 0 _) 12 (by decide)
        have q4 : m__law_eq fuel 12 [some (.bool true), some (.bool true)] () = some (.bool true, ()) := e_eq fuel (Kd.bool 0 _) 12 (by decide)
        simp_arith [t, t1, nO]
        refine Wp.mono (Q := fun d s5 => s5 = s4 ∧ d = .list (rowD (gapsL O (m2 * M2)))) ?_ ?_
        · by_cases h1 : O = [1]
          · have hc : c2 = 0 := one_c (g := g2) (by rw [← h1]; exact N2)
            subst hc
            rw [gapsL_nil N2]
            have h1' : decide (O = [1]) = true := decide_eq_true h1
            simp_arith [h1']
            rfl
          · have h1' : decide (O = [1]) = false := decide_eq_false h1
            simp_arith [h1', t2]
        · rintro _ s5 ⟨rfl, rfl⟩
          simp_arith [mx, mx1]
          refine Wp.mono (Q := fun d s6 => s6 = s5 ∧ d = .int ((c2 : Int) - 1)) ?_ ?_
          · rcases Nat.eq_zero_or_pos c2 with z | z
            · subst z
              have ie : (gapsL O (m2 * M2)).isEmpty = true := by rw [gapsL_nil N2]; rfl
              simp_arith [ie]
              all_goals rfl
            · obtain ⟨mx2, ne2⟩ := gapsL_max N2 (most := m2 * M2) (by omega) z
              have ie : (gapsL O (m2 * M2)).isEmpty = false := by
                cases e : gapsL O (m2 * M2) with
                | nil => exact absurd e ne2
                | cons a r => rfl
              have ec : ((c2 - 1 : Nat) : Int) = (c2 : Int) - 1 := by omega
              simp_arith [ie, mx2]
          · rintro _ s6 ⟨rfl, rfl⟩
            have ca : ((a * (c1 - 1) : Nat) : Int) = (a : Int) * ((c1 : Int) - 1) := by
              rw [Int.natCast_mul, show ((c1 - 1 : Nat) : Int) = (c1 : Int) - 1 by omega]
            have gk := gapI f1
            have k0 : (((c - 1 : Nat) : Int) = ((a * (c1 - 1) : Nat) : Int) + (b : Int) * ((c2 : Int) - 1) + ((a * b : Nat) : Int)) = True := eq_true (by rw [ca, gk]; omega)
            have key' : (g = a * g1 + b * g2 + (a - 1) * (b - 1) / 2) = True := eq_true key.symm
            have ab1 : (a - 1) * (b - 1) ≤ 60 * 60 := Nat.mul_le_mul (by omega) (by omega)
            simp_arith [k0, lg, lg1, lg2, key', gl, q1, k1, q2, k2, q3]
            refine wp_lcA (l := R1) (f := fun x : Nat => .int (x : Int)) (fun x : Nat => .int ((a * x : Nat) : Int)) (fun x hx => by have := o1.pos x hx; simp_arith []) ?_
            rw [mul_row a R1]
            have la : (rowD (R1.map fun x => a * x)).length ≤ 1000 := by rw [y_rowlen, List.length_map]; omega
            have lb : (rowD (O.map fun x => b * x)).length ≤ 1000 := by rw [y_rowlen, List.length_map]; omega
            simp_arith [la]
            refine wp_lcA (l := O) (f := fun x : Nat => .int (x : Int)) (fun x : Nat => .int ((b * x : Nat) : Int)) (fun x hx => by have := oth.pos x hx; simp_arith []) ?_
            rw [mul_row b O]
            have j0 : atI (rowD (R1.map fun x => a * x)) 0 = some (.int ((a * m1 : Nat) : Int)) := atI_row (n := 0) (by rw [List.getElem?_map, hm1]; rfl)
            have j1 : atI (rowD row) 0 = some (.int (m : Int)) := atI_row (n := 0) hm
            have z2 : ∀ x y : D, [x, y].reverse = [y, x] := fun _ _ => rfl
            have bF : ∀ x ∈ R1.map (fun x => a * x), 0 < x ∧ x ≤ 1000 := fun x hx => by
              obtain ⟨y, hy, rfl⟩ := List.mem_map.mp hx
              have h1 := o1.pos y hy
              have h2 : a * y ≤ 60 * 10 := Nat.mul_le_mul ha.2.2.2 h1.2
              exact ⟨Nat.mul_pos (by omega) h1.1, by omega⟩
            have bS : ∀ x ∈ O.map (fun x => b * x), 0 < x ∧ x ≤ 1000 := fun x hx => by
              obtain ⟨y, hy, rfl⟩ := List.mem_map.mp hx
              have h1 := oth.pos y hy
              have h2 : b * y ≤ 60 * 10 := Nat.mul_le_mul hb.2.2.2 h1.2
              exact ⟨Nat.mul_pos (by omega) h1.1, by omega⟩
            have nF : R1.map (fun x => a * x) ≠ [] := fun z => o1.ne (List.map_eq_nil_iff.mp z)
            have nS : O.map (fun x => b * x) ≠ [] := fun z => oth.ne (List.map_eq_nil_iff.mp z)
            have eF : El (R1.map fun x => a * x) (a * b) := el_mul hb.1
            have eS : El (O.map fun x => b * x) (a * b) := by rw [Nat.mul_comm]; exact el_mul ha.1
            by_cases hsw : a * m1 = m
            · have gg := e_is_gluing fuel (F := R1.map fun x => a * x) (S := O.map fun x => b * x) (row := row) (p := a) (q := b) (f := m) (mul_srt o1.asc) (mul_srt oth.asc) G.eq.symm bF bS (by rw [List.length_map]; omega) (by rw [List.length_map]; omega) (gcdL_mul o1.gcd o1.ne) (gcdL_mul oth.gcd oth.ne) (by omega) (by omega) (by omega) G.gcd eF eS (by rw [List.getElem?_map, hm1, ← hsw]; rfl) hm nS
              simp_arith [lb, z0, z1, j0, j1, hsw, gg, q4]
              exact hs4
            · have hmS : b * m2 = m := by
                have hmem := (G.glr m).mp hmR
                have h1 : m ≤ a * m1 := hlo _ ((G.glr _).mpr (.inl ⟨m1, hmR1, rfl⟩))
                have h2 : m ≤ b * m2 := hlo _ ((G.glr _).mpr (.inr ⟨m2, hmR2, rfl⟩))
                rcases hmem with ⟨y, hy, e⟩ | ⟨y, hy, e⟩
                · have := Nat.mul_le_mul_left a (hlo1 y hy)
                  omega
                · have := Nat.mul_le_mul_left b (hlo2 y hy)
                  omega
              have gg := e_is_gluing fuel (F := O.map fun x => b * x) (S := R1.map fun x => a * x) (row := row) (p := b) (q := a) (f := m) (mul_srt oth.asc) (mul_srt o1.asc) ((srt_eq List.perm_append_comm).trans G.eq.symm) bS bF (by rw [List.length_map]; omega) (by rw [List.length_map]; omega) (gcdL_mul oth.gcd oth.ne) (gcdL_mul o1.gcd o1.ne) (by omega) (by omega) (by omega) (by rw [Nat.gcd_comm]; exact G.gcd) (by rw [Nat.mul_comm]; exact eS) (by rw [Nat.mul_comm]; exact eF) (by rw [List.getElem?_map, hm2, ← hmS]; rfl) hm nF
              simp_arith [lb, z0, z1, z2, j0, j1, hsw, gg, q4]
              exact hs4
      · simp_arith []
        exact hs4
  · rintro ρ s ⟨hρ, hs⟩
    obtain ⟨a0, a1, a2, a3, a4, a5, a6, a7, a8, a9, a10, a11, a12, a13, a14, a15, rfl⟩ := slots16 ρ hρ
    exact law_tail hs
def topS (i : Nat) : Stmt := PySem.Challenge.pw_gaphouse_k40_whole_gaps_of_gluings.main.body.getD i (.Pass ⟨0, 0, 0, 0⟩)
abbrev s__law_state : Stmt := topS 17
abbrev s__law_table : Stmt := topS 23
abbrev s__law_draw : Stmt := topS 18
abbrev s__law_pick : Stmt := topS 19
abbrev s__law_gcd : Stmt := topS 21
abbrev s__law_glued : Stmt := topS 26
abbrev s__law_tree : Stmt := topS 27
abbrev s__law_gaps : Stmt := topS 28
abbrev s__law_common : Stmt := topS 22
abbrev s__law_least : Stmt := topS 24
abbrev s__law_semigroup : Stmt := topS 25
abbrev s__law_eq : Stmt := topS 20
abbrev s_gap_of_tree : Stmt := topS 11
abbrev s_genus_of_tree : Stmt := topS 12
abbrev s_common : Stmt := topS 7
abbrev s_table_of : Stmt := topS 2
abbrev s_is_sum : Stmt := topS 8
abbrev s_is_gluing : Stmt := topS 9
abbrev s_glue : Stmt := topS 10
abbrev s_least_place : Stmt := topS 5
abbrev s_remainders : Stmt := topS 4
abbrev s_greatest_gap : Stmt := topS 14
abbrev s_genus : Stmt := topS 15
abbrev s_law : Stmt := topS 29
section
variable [Tabs] {P : Program} {w : World} {K : Frag} {mg : Str → Option Value} {base : Heap}
theorem sc_state : FnScope ["script", "seed", "cell"] ["script"] (defScope s__law_state) := ⟨rfl, rfl, rfl, by decide +kernel, rfl, by decide +kernel, by decide +kernel⟩
theorem sc_draw : FnScope ["state", "many", "cells", "value", "mixed"] ["state", "many"] (defScope s__law_draw) := ⟨rfl, rfl, rfl, by decide +kernel, rfl, by decide +kernel, by decide +kernel⟩
theorem same_upd {H : Hp} {p : Addr} {o : HO} (h : H p = none) : Same H (upd H p o) := fun b x e => by
  rw [upd_ne (ne_of_none e h)]
  exact e
theorem ok_state {f : Addr} {fd : FuncData} (F : Fun K "_law_state" "_law_state" s__law_state f fd) (zint : mg "int" = none) (zabs : mg "abs" = none) : FnOk P w K mg base CX0 1 f fd ["script"] (spState K) := by
  refine F.ok sc_state (fun vs H Q E h => ?_) (fun cdv A outer s H vs Q E hr h => ?_)
  · obtain ⟨a, ns, rfl, _⟩ := h
    rfl
  · obtain ⟨a, ns, rfl, hS, hlen, q⟩ := h
    refine ⟨_, pss_cons (ps_set (i := 1) sc_state.nd rfl (.inl rfl) pe_int)
      (pss_cons (ps_for PassesOwn.never rfl (pi_list (pv 0)) (pg_name (i := 2) sc_state.nd rfl (.inl rfl))
        (pss_one (ps_set (i := 1) sc_state.nd rfl (.inl rfl) (pe_op op_mod (pe_callTy call_int1 (by rfl) zint (by decide +kernel) (pa_cons (pe_op op_add (pe_op op_mul (pv 1) pe_int) (pv 2)) pa_nil)) pe_int))))
      (pss_one (ps_ret (pe_lst (pa_cons (pe_lc (own := [("cell", 2)]) (g := gName 2) (tt := tYes) rfl sc_state.nd (pi_list (pv 0)) (blkOk_by (own := [("cell", 2)]) (N := ["script", "seed", "cell"]) (sc := defScope s__law_state) (by decide +kernel))
        (fun _ _ _ _ _ => pg_name (i := 2) sc_state.nd rfl (Or.inl rfl)) (fun _ _ _ _ _ => pts_nil) (fun _ _ _ _ _ => pe_callB call_abs (by rfl) zabs (by decide +kernel) (pa_cons (pv 2) pa_nil)))
        (pa_cons (pe_op op_add (pv 1) pe_int) pa_nil)))))), ?_⟩
    refine ⟨.ref a, rfl, a, rfl, ⟨_, hS⟩, for_list (K := K) (a := a) (xs := ns.map V.int) (fun i σ H' => ∃ v, σ = [some (.ref a), some (.int (seedOf (ns.take i))), v] ∧ H' = H) ⟨none, rfl, rfl⟩ (fun i σ H' _ ⟨_, _, e⟩ => by rw [e]; exact hS) ?_ ?_⟩
    · rintro i y σ H' hi ⟨v, rfl, rfl⟩
      obtain ⟨c, hc, rfl⟩ : ∃ c, ns[i]? = some c ∧ y = V.int c := by
        rw [List.getElem?_map] at hi
        cases e : ns[i]? with
        | none => rw [e] at hi; cases hi
        | some u => rw [e] at hi; exact ⟨u, rfl, (Option.some.inj hi).symm⟩
      have hb : -(2 ^ 64) < seedOf (ns.take i) ∧ seedOf (ns.take i) < 2 ^ 64 := by
        have : 0 ≤ seedOf (ns.take i) ∧ seedOf (ns.take i) < 1000003 := by
          unfold seedOf
          generalize ns.take i = l
          rcases List.eq_nil_or_concat l with e | ⟨l', c', e⟩
          · rw [e]; decide
          · rw [e, List.concat_eq_append, List.foldl_append]
            exact ⟨Int.emod_nonneg _ (by decide), Int.emod_lt_of_pos _ (by decide)⟩
        omega
      refine ⟨_, rfl, _, _, rfl, rfl, .inl hb, .int c, rfl, _, _, rfl, rfl, .inl ⟨_, rfl, _, _, rfl, rfl, by show (0 : Int) < 1000003; decide, ?_⟩⟩
      refine ⟨some (.int c), ?_, rfl⟩
      have : seedOf (ns.take (i + 1)) = (seedOf (ns.take i) * 31 + c) % 1000003 := by
        unfold seedOf
        rw [List.take_add_one, hc, List.foldl_append]
        rfl
      rw [this]
      rfl
    · rintro σ H' ⟨v, rfl, rfl⟩
      have eseed : seedOf (ns.take (ns.map V.int).length) = seedOf ns := by
        rw [List.length_map, List.take_length]
      have hz : (ns.map V.int).length ≤ sizeLine := Nat.le_trans (by rw [List.length_map]; exact hlen) (by decide)
      refine ⟨.ref a, rfl, a, rfl, ⟨_, hS⟩, fun p np => lc_list (K := K) (a := a) (xs := ns.map V.int) (fun i H1 => H1 p = some (.lst ((ns.take i).map fun c => V.int (if c < 0 then -c else c))) ∧ Same H' H1 ∧ ∀ b, H' b = none → b ≠ p → H1 b = none)
        ⟨upd_same, same_upd np, fun b nb hb => by rw [upd_ne hb]; exact nb⟩ (fun i H1 _ h => h.2.1.seq hS) ?_ ?_⟩
      · rintro i y H1 hi ⟨e1, e2, e3⟩
        obtain ⟨c, hc, rfl⟩ : ∃ c, ns[i]? = some c ∧ y = V.int c := by
          rw [List.getElem?_map] at hi
          cases e : ns[i]? with
          | none => rw [e] at hi; cases hi
          | some u => rw [e] at hi; exact ⟨u, rfl, (Option.some.inj hi).symm⟩
        refine ⟨rfl, ?_⟩
        unfold tYes
        dsimp only
        rw [if_pos rfl]
        refine ⟨_, rfl, c, rfl, _, e1, ?_, ?_, ?_, ?_⟩
        · rw [List.length_map, List.length_take]
          refine Nat.lt_of_le_of_lt (Nat.min_le_right _ _) (Nat.lt_of_le_of_lt hlen (by decide))
        · rw [upd_same, List.take_add_one, hc, List.map_append]
          rfl
        · intro b o hb
          rw [upd_ne (ne_of_none hb np)]
          exact e2 _ _ hb
        · intro b nb hb
          rw [upd_ne hb]
          exact e3 b nb hb
      · rintro H1 ⟨e1, e2, e3⟩
        refine ⟨.int (seedOf (ns.take (ns.map V.int).length)), rfl, _, 1, rfl, rfl, by show 2 ≤ sizeLine; decide, fun p' np' => ?_⟩
        have npp : p' ≠ p := fun z => by
          rw [z, e1] at np'
          cases np'
        refine q _ p' p ?_ (e2.free np') np ⟨?_, ?_⟩
        · intro b o hb
          have := e2 _ _ hb
          rw [upd_ne (ne_of_none this np')]
          exact this
        · rw [upd_same, eseed]
          rfl
        · rw [upd_ne npp.symm, e1, List.length_map, List.take_length]
          unfold stateOf
          rw [List.map_map]
          rfl
theorem callState (h : Has K mg "_law_state" s__law_state) (zint : mg "int" = none) (zabs : mg "abs" = none) : CallX P w K mg base "_law_state" 1 ["script"] (spState K) := by
  obtain ⟨f, fd, F, g⟩ := h
  exact ⟨f, fd, ok_state F zint zabs, g, F.kp, F.binds fun _ _ _ _ _ _ us hl => match us, hl with | [_], _ => rfl⟩
theorem ix0 (c : V) (r : List V) : ixN (c :: r).length 0 = some 0 := by
  unfold ixN
  rw [if_pos (by decide), if_pos (by rw [List.length_cons]; omega)]
  rfl
theorem dropZ_nil {cs : List Int} (h : cs = []) : dropZ cs = [] := by rw [h]; rfl
theorem ok_draw {f : Addr} {fd : FuncData} (F : Fun K "_law_draw" "_law_draw" s__law_draw f fd) (zint : mg "int" = none) (zlen : mg "len" = none) : FnOk P w K mg base CX0 1 f fd ["state", "many"] (spS K 2 m_draw) := by
  refine F.ok sc_draw (fun vs H Q E h => ?_) (fun cdv A outer s H vs Q E hr h => ?_)
  · obtain ⟨_, _, _, _, _, _, _, _, _, h1, _⟩ := h
    exact h1
  · obtain ⟨sa, ca, F1, ds, z, d, z', ws, rfl, h1, sm, rl, exF, rp, hm, q⟩ := h
    refine ⟨_, pss_cons (ps_set (i := 2) sc_draw.nd rfl (.inl rfl) (pe_ix ix_list (pv 0) pe_int (fun _ _ => rfl)))
      (pss_cons (ps_while PassesOwn.never (PW.pt (pw_and (pt_cmpR op_gt (pe_callB call_len_seq (by rfl) zlen PySem.boot_len (pa_cons (pv 2) pa_nil)) pe_int (nomark _)) (pw_and1 (pt_cmpR op_eq (pe_ix ix_list (pv 2) pe_int (fun _ _ => rfl)) pe_int (nomark _)))))
        (pss_one (ps_expr (pe_bm PySem.F.plainAttrs_list PySem.F.slot_list_pop PySem.F.type_list_pop mt_popAt (pv 2) (pa_cons pe_int pa_nil)))))
      (pss_cons (ps_if (pt_cmpR op_gt (pe_callB call_len_seq (by rfl) zlen PySem.boot_len (pa_cons (pv 2) pa_nil)) pe_int (nomark _))
        (pss_cons (ps_set (i := 3) sc_draw.nd rfl (.inl rfl) (pe_ix ix_list (pv 2) pe_int (fun _ _ => rfl)))
        (pss_cons (ps_asg (pe_op op_fdivW (pv 3) (pv 1)) (pg_sub (pv 2) pe_int set_list))
        (pss_one (ps_ret (pe_op op_mod (pe_callTy call_int1 (by rfl) zint (by decide +kernel) (pa_cons (pv 3) pa_nil)) (pv 1)))))) pss_nil)
      (pss_cons (ps_set (i := 4) sc_draw.nd rfl (.inl rfl) (pe_op op_mod (pe_callTy call_int1 (by rfl) zint (by decide +kernel) (pa_cons (pe_op op_add (pe_op op_mul (pe_ix ix_list (pv 0) pe_int (fun _ _ => rfl)) pe_int) pe_int) pa_nil)) pe_int))
      (pss_cons (ps_asg (pv 4) (pg_sub (pv 0) pe_int set_list))
      (pss_one (ps_ret (pe_op op_mod (pe_callTy call_int1 (by rfl) zint (by decide +kernel) (pa_cons (pe_op op_fdiv (pv 4) pe_int) pa_nil)) (pv 1)))))))), ?_⟩
    obtain ⟨n, rfl, hn0, hnl, hd, hz'⟩ : ∃ n : Int, ds = [.int n] ∧ 0 < n ∧ n.natAbs.log2 < 9000 ∧ d = .int (drawI z n).1 ∧ z' = (drawI z n).2 := by
      unfold m_draw at hm
      split at hm
      · rename_i n e
        split at hm
        · rename_i hc
          cases hm
          refine ⟨n, ?_, hc.1, hc.2, rfl, rfl⟩
          simp only [List.cons.injEq, true_and] at e
          cases ds with
          | nil => simp at e
          | cons x r =>
            cases r with
            | nil => simp at e; rw [e]
            | cons y r => simp at e
        · cases hm
      · cases hm
    obtain ⟨u, rfl, rv⟩ := rp1 rp
    cases rv
    subst hd hz'
    obtain ⟨⟨hsa, hca⟩, htb⟩ := rl
    have hnt : ∀ b ∈ (Tabs.l), b ≠ sa ∧ b ≠ ca := fun b hb => relS_not ⟨hsa, hca⟩ (htb b hb)
    have ne : sa ≠ ca := fun e => by
      rw [e, hca] at hsa
      have := Option.some.inj hsa
      injection this with this
      cases h3 : z.cells with
      | nil => rw [h3] at this; cases this
      | cons a b => rw [h3] at this; cases this
    refine ⟨.ref sa, rfl, sa, _, 0, .ref ca, rfl, rfl, SqL.of hsa, atI_nat (j := 0) rfl, ?_⟩
    -- the while
    refine ⟨fun m σ H' => ∃ cs : List Int, m = cs.length ∧ σ = [some (.ref sa), some (.int n), some (.ref ca), none, none] ∧ H' ca = some (.lst (cs.map V.int)) ∧ (∀ b, b ≠ ca → H' b = H b) ∧ dropZ cs = dropZ z.cells, ⟨_, z.cells, rfl, rfl, hca, fun _ _ => rfl, rfl⟩, ?_⟩
    rintro m σ H' ⟨cs, rfl, rfl, k1, k2, k3⟩
    refine ⟨.ref ca, rfl, ca, _, rfl, .inl (SqL.of k1), _, _, rfl, rfl, _, rfl, ?_⟩
    have fin : ∀ (H2 : Hp) (v : Int) (z2 : DS), (drawI z n).1 = v → (drawI z n).2 = z2 → H2 sa = some (.lst [.ref ca, .int z2.seed]) → H2 ca = some (.lst (z2.cells.map V.int)) → (∀ b, b ≠ sa → b ≠ ca → H2 b = H b) → Q (.int v) H2 := fun H2 v z2 e1 e2 e3 e4 e5 => by
      have hb : ∀ b o, H b = some o → b ∉ (ambS sa ca).ex → H2 b = some o := fun b o hb hx => by
        have hx : b ∉ sa :: ca :: Tabs.l := hx
        simp only [List.mem_cons, not_or] at hx
        rw [e5 b hx.1 hx.2.1]
        exact hb
      have hF : ∀ b o, F1 b = some o → b ∉ (ambS sa ca).ex := fun b o hb hx => by
        rw [exF b hx] at hb
        cases hb
      rw [← e1]
      refine q F1 H2 _ ⟨Same.refl _, fun b o hx hh => hb b o hh hx, fun b hn => ?_, fun b o hh => hb b o (sm _ _ hh) (hF b o hh), fun b e n => absurd e n⟩ ?_ (.int _)
      · by_cases w1 : b = sa
        · rw [w1, e3]; exact Option.some_ne_none _
        · by_cases w2 : b = ca
          · rw [w2, e4]; exact Option.some_ne_none _
          · rw [e5 b w1 w2]; exact hn
      · rw [e2]
        exact ⟨⟨e3, e4⟩, fun b hb => let ⟨ps, e, t⟩ := htb b hb; ⟨ps, by rw [e5 b (hnt b hb).1 (hnt b hb).2]; exact e, t⟩⟩
    cases cs with
    | nil =>
      refine iteF (iteF ?_)
      refine ⟨.ref ca, rfl, ca, _, rfl, .inl (SqL.of k1), _, _, rfl, rfl, _, rfl, iteF ?_⟩
      have hsa' : H' sa = some (.lst [.ref ca, .int z.seed]) := by rw [k2 sa ne]; exact hsa
      refine ⟨.ref sa, rfl, sa, _, 1, .int z.seed, rfl, rfl, SqL.of hsa', atI_nat (j := 1) rfl, z.seed, 48271, rfl, rfl, .inr ⟨by decide, by decide⟩, _, 12345, rfl, rfl, .inl ⟨_, rfl, _, 2147483647, rfl, rfl, by show (0 : Int) < 2147483647; decide, ?_⟩⟩
      refine ⟨_, rfl, .ref sa, rfl, sa, _, 1, 1, rfl, rfl, hsa', rfl, ?_⟩
      refine ⟨_, rfl, _, 64, rfl, rfl, ⟨by decide, by decide⟩, .inl ⟨_, rfl, .int n, rfl, _, n, rfl, rfl, hn0, ?_⟩⟩
      have ed : drawI z n = (((z.seed * 48271 + 12345) % 2147483647 / 64) % n, ⟨[], (z.seed * 48271 + 12345) % 2147483647⟩) := by
        unfold drawI
        rw [← k3]
        rfl
      refine fin _ _ ⟨[], (z.seed * 48271 + 12345) % 2147483647⟩ (by rw [ed]) (by rw [ed]) upd_same (by rw [upd_ne ne.symm]; exact k1) fun b h1 h2 => by rw [upd_ne h1]; exact k2 b h2
    | cons c r =>
      have hp : decide ((0 : Int) < ((((c :: r).map V.int).length : Nat) : Int)) = true := decide_eq_true (by rw [List.length_map, List.length_cons]; omega)
      show (if decide ((0 : Int) < ((((c :: r).map V.int).length : Nat) : Int)) = true then _ else _)
      rw [hp]
      refine iteT ?_
      refine ⟨.ref ca, rfl, ca, _, 0, .int c, rfl, rfl, SqL.of k1, atI_nat (j := 0) rfl, rfl, _, rfl, ?_⟩
      by_cases hc : c = 0
      · subst hc
        have ht : decide (V.int 0 = V.int 0) = true := decide_eq_true rfl
        rw [ht]
        refine iteT ⟨fun σ' H'' => σ' = [some (.ref sa), some (.int n), some (.ref ca), none, none] ∧ H'' ca = some (.lst (r.map V.int)) ∧ (∀ b, b ≠ ca → H'' b = H b), fun σ' H'' ⟨a1, a2, a3⟩ => ⟨r.length, Nat.lt_succ_self _, r, rfl, a1, a2, a3, ?_⟩, ?_⟩
        · rw [← k3]
          show dropZ r = (if (0 : Int) = 0 then dropZ r else 0 :: r)
          rw [if_pos rfl]
        · refine ⟨.ref ca, rfl, .inl ⟨rfl, _, SqL.of k1⟩, ca, _, 0, 0, .int 0, rfl, rfl, k1, by decide, by decide, (ixN_seq (ix0 (.int 0) (r.map V.int))).1, rfl, ?_⟩
          exact ⟨rfl, upd_same, fun b hb => by rw [upd_ne hb]; exact k2 b hb⟩
      · have hf : decide (V.int c = V.int 0) = false := decide_eq_false fun e => hc (V.int.inj e)
        rw [hf]
        refine iteF ?_
        refine ⟨.ref ca, rfl, ca, _, rfl, .inl (SqL.of k1), _, _, rfl, rfl, _, rfl, ?_⟩
        show (if decide ((0 : Int) < ((((c :: r).map V.int).length : Nat) : Int)) = true then _ else _)
        rw [hp]
        refine iteT ?_
        refine ⟨.ref ca, rfl, ca, _, 0, .int c, rfl, rfl, SqL.of k1, atI_nat (j := 0) rfl, ?_⟩
        refine ⟨.int c, rfl, .int n, rfl, c, n, rfl, rfl, ⟨hn0, hnl⟩, .ref ca, rfl, ca, _, 0, 0, rfl, rfl, k1, ix0 (.int c) (r.map V.int), ?_⟩
        refine ⟨.int c, rfl, .inl ⟨c, rfl, .int n, rfl, c, n, rfl, rfl, hn0, ?_⟩⟩
        have ed : drawI z n = (c % n, ⟨(c / n) :: r, z.seed⟩) := by
          unfold drawI
          rw [← k3]
          show (match (if c = 0 then dropZ r else c :: r) with | c :: r => _ | [] => _) = _
          rw [if_neg hc]
        refine fin _ _ ⟨(c / n) :: r, z.seed⟩ (by rw [ed]) (by rw [ed]) (by rw [upd_ne ne, k2 sa ne]; exact hsa) upd_same fun b h1 h2 => by rw [upd_ne h2]; exact k2 b h2
theorem callDraw (h : Has K mg "_law_draw" s__law_draw) (zint : mg "int" = none) (zlen : mg "len" = none) : CallS P w K mg base "_law_draw" 1 ["state", "many"] 2 m_draw := by
  obtain ⟨f, fd, F, g⟩ := h
  exact ⟨f, fd, ok_draw F zint zlen, g, F.kp, F.binds fun _ _ _ _ _ _ us hl => match us, hl with | [_, _], _ => rfl⟩

theorem sc__law_table : FnScope ["row", "most", "told", "x", "step"] ["row", "most"] (defScope s__law_table) := ⟨rfl, rfl, rfl, by decide +kernel, rfl, by decide +kernel, by decide +kernel⟩
theorem c__law_table (fu : Nat) (h : Has K mg "_law_table" s__law_table) (z_range : mg "range" = none) : CallP P w K mg base "_law_table" 1 ["row", "most"] 2 (m__law_table fu) :=
  callP_mk (k := 0) (own' := []) h sc__law_table rfl (fun _ _ _ _ _ _ us hl => match us, hl with | [_, _], _ => rfl) fun f cdv A outer s H E hr =>
    (wss_cons (ws_setO (own' := [2]) 2 (wo_cat (we_lst (wa_cons we_bl wa_nil)) (we_mul (we_lst (wa_cons we_bl wa_nil)) (we_var 1))))
  (wss_cons (ws_for (wi_range2 (wa_cons we_int (wa_cons (we_add (we_var 1) we_int) wa_nil)) (by exact fun _ => z_range)) (wg_name 3)
  (wss_one (ws_six 2 (we_var 3) (we_ne (WO.we (wo_lc (ownL := [("step", 4)]) (wi_seq (we_var 0)) (fun _ => blkOk_by (by rfl)) (wg_name 4) (wts_one (wt_w (ww_and (wt_le (we_var 4) (we_var 3)) (ww_and1 (wt_truth (we_ixO 2 (we_sub (we_var 3) (we_var 4)))))))) we_int)) (we_lst wa_nil)))))
  (wss_fz (own1 := []) 2 (wss_one (ws_ret (we_var 2))))))
theorem sc__law_pick : FnScope ["state", "row"] ["state", "row"] (defScope s__law_pick) := ⟨rfl, rfl, rfl, by decide +kernel, rfl, by decide +kernel, by decide +kernel⟩
theorem c__law_pick (fu : Nat) (h : Has K mg "_law_pick" s__law_pick) (z_len : mg "len" = none) (c__law_draw : CallS P w K mg base "_law_draw" 1 ["state", "many"] 2 m_draw) : CallS P w K mg base "_law_pick" 2 ["state", "row"] 2 (m__law_pick fu) :=
  callS_mk (k := 1) (own' := []) h sc__law_pick rfl (fun _ _ _ _ _ _ us hl => match us, hl with | [_, _], _ => rfl) fun sa ca f cdv A outer s H E hr =>
    (wss_one (ws_ret (we_ix (we_var 1) (we_cS (sa := sa) (ca := ca) 0 (by exact fun _ => c__law_draw) (wa_cons (we_callB (r := rLenX) (fun i => len_c _) cd_len (wa_cons (we_var 1) wa_nil) (by exact fun _ => z_len) (by decide +kernel)) wa_nil)))))
theorem sc__law_gcd : FnScope ["a", "b"] ["a", "b"] (defScope s__law_gcd) := ⟨rfl, rfl, rfl, by decide +kernel, rfl, by decide +kernel, by decide +kernel⟩
theorem c__law_gcd (fu : Nat) (h : Has K mg "_law_gcd" s__law_gcd) (z_int : mg "int" = none) : CallP P w K mg base "_law_gcd" 1 ["a", "b"] 2 (m__law_gcd fu) :=
  callP_mk (k := 0) (own' := []) h sc__law_gcd rfl (fun _ _ _ _ _ _ us hl => match us, hl with | [_, _], _ => rfl) fun f cdv A outer s H E hr =>
    (wss_cons (ws_whI (wt_gt (we_var 1) we_int)
  (wss_one (ws_par 0 1 (wa_cons (we_var 1) (wa_cons (we_mod (we_callTy (r := rIntX) (fun _ => call_int1) cd_int (wa_cons (we_var 0) wa_nil) (by exact fun _ => z_int) (by decide +kernel)) (we_var 1)) wa_nil)))))
  (wss_one (ws_ret (we_var 0))))
theorem sc__law_glued : FnScope ["state", "one", "other", "most", "high", "low", "x", "bs", "choices", "turn", "a", "b", "row"] ["state", "one", "other", "most"] (defScope s__law_glued) := ⟨rfl, rfl, rfl, by decide +kernel, rfl, by decide +kernel, by decide +kernel⟩
theorem c__law_glued (fu : Nat) (h : Has K mg "_law_glued" s__law_glued) (z_max : mg "max" = none) (z_min : mg "min" = none) (z_range : mg "range" = none) (z_sorted : mg "sorted" = none) (z_tuple : mg "tuple" = none) (c__law_gcd : CallP P w K mg base "_law_gcd" 1 ["a", "b"] 2 (m__law_gcd fu)) (c__law_pick : CallS P w K mg base "_law_pick" 2 ["state", "row"] 2 (m__law_pick fu)) (c__law_table : CallP P w K mg base "_law_table" 1 ["row", "most"] 2 (m__law_table fu)) : CallS P w K mg base "_law_glued" 3 ["state", "one", "other", "most"] 4 (m__law_glued fu) :=
  callS_mk (k := 2) (own' := []) h sc__law_glued rfl (fun _ _ _ _ _ _ us hl => match us, hl with | [_, _, _, _], _ => rfl) fun sa ca f cdv A outer s H E hr =>
    (wss_cons (ws_tg (we_tup (wa_cons (we_cP (by exact fun _ => c__law_table) (wa_cons (we_var 1) (wa_cons we_int wa_nil))) (wa_cons (we_cP (by exact fun _ => c__law_table) (wa_cons (we_var 2) (wa_cons we_int wa_nil))) wa_nil))) (wg_tup (wgs_cons (wg_name 4) (wgs_cons (wg_name 5) wgs_nil))))
  (wss_cons (ws_lc (own' := []) 7 (ownL := [("x", 6)]) (wi_range2 (wa_cons we_int (wa_cons we_int wa_nil)) (by exact fun _ => z_range)) (fun _ => blkOk_by (by rfl)) (wg_name 6) (wts_one (wt_w (ww_and (wt_truth (we_ix (we_var 4) (we_var 6))) (ww_and1 (wt_nin (we_var 6) (we_var 1)))))) (we_var 6))
  (wss_cons (ws_lc (own' := []) 8 (ownL := [("x", 6)]) (wi_range2 (wa_cons we_int (wa_cons we_int wa_nil)) (by exact fun _ => z_range)) (fun _ => blkOk_by (by rfl)) (wg_name 6) (wts_one (wt_w (ww_and (wt_truth (we_ix (we_var 5) (we_var 6))) (ww_and1 (wt_nin (we_var 6) (we_var 2)))))) (we_var 6))
  (wss_cons (ws_for (wi_range1 (wa_cons (we_if (wt_w (ww_and (wt_ne (we_var 7) (we_lst wa_nil)) (ww_and1 (wt_ne (we_var 8) (we_lst wa_nil))))) we_int we_int) wa_nil) (by exact fun _ => z_range)) (wg_name 9)
  (wss_cons (ws_tg (we_tup (wa_cons (we_cS (sa := sa) (ca := ca) 0 (by exact fun _ => c__law_pick) (wa_cons (we_slice (we_var 8) wp_no (wp_so we_int)) wa_nil)) (wa_cons (we_cS (sa := sa) (ca := ca) 0 (by exact fun _ => c__law_pick) (wa_cons (we_slice (we_var 7) wp_no (wp_so we_int)) wa_nil)) wa_nil))) (wg_tup (wgs_cons (wg_name 10) (wgs_cons (wg_name 11) wgs_nil))))
  (wss_cons (ws_set (own' := []) 12 (we_callTy (r := rTupX) (fun _ => call_tuple_of) cd_tuple (wa_cons (WO.we (wo_callB (r := rSortedW) (fun _ => cr_sortedW) co_sortedW (wa_cons (we_add (WO.we (wo_lc (ownL := [("x", 6)]) (wi_seq (we_var 1)) (fun _ => blkOk_by (by rfl)) (wg_name 6) wts_nil (we_mul (we_var 10) (we_var 6)))) (WO.we (wo_lc (ownL := [("x", 6)]) (wi_seq (we_var 2)) (fun _ => blkOk_by (by rfl)) (wg_name 6) wts_nil (we_mul (we_var 11) (we_var 6))))) wa_nil) (by exact fun _ => z_sorted) (by decide +kernel))) wa_nil) (by exact fun _ => z_tuple) (by decide +kernel)))
  (wss_one (ws_if (wt_w (ww_and (wt_eq (we_cP (by exact fun _ => c__law_gcd) (wa_cons (we_callB (r := rMax2X) (fun i => call_max2 rfl) cd_max2 (wa_cons (we_var 10) (wa_cons (we_var 11) wa_nil)) (by exact fun _ => z_max) (by decide +kernel)) (wa_cons (we_callB (r := rMin2X) (fun i => call_min2 rfl) cd_min2 (wa_cons (we_var 10) (wa_cons (we_var 11) wa_nil)) (by exact fun _ => z_min) (by decide +kernel)) wa_nil))) we_int) (ww_and1 (wt_le (we_callB (r := rMaxG) (fun i => cr_maxG (Fam.calm _ i) (room_u i)) cd_maxG (wa_cons (we_var 12) wa_nil) (by exact fun _ => z_max) (by decide +kernel)) (we_var 3)))))
  (wss_one (ws_ret (we_tup (wa_cons (we_var 12) (wa_cons (we_var 10) (wa_cons (we_var 11) wa_nil))))))
  wss_nil)))))
  (wss_one (ws_ret we_non))))))
theorem sc__law_tree : FnScope ["state", "size", "k", "first", "one", "second", "other", "found", "row", "a", "b"] ["state", "size"] (defScope s__law_tree) := ⟨rfl, rfl, rfl, by decide +kernel, rfl, by decide +kernel, by decide +kernel⟩
theorem c__law_tree (fu : Nat) (h : Has K mg "_law_tree" s__law_tree) (c__law_draw : CallS P w K mg base "_law_draw" 1 ["state", "many"] 2 m_draw) (c__law_glued : CallS P w K mg base "_law_glued" 3 ["state", "one", "other", "most"] 4 (m__law_glued fu)) : ∀ r : Nat, CallS P w K mg base "_law_tree" (3 + r) ["state", "size"] 2 (m__law_tree fu r)
  | 0 => callS_zero h rfl (fun _ _ _ _ _ _ us hl => match us, hl with | [_, _], _ => rfl)
  | r + 1 => by
    have c__law_tree := c__law_tree fu h c__law_draw c__law_glued r
    exact callS_mk (k := 3 + r) (own' := []) h sc__law_tree rfl (fun _ _ _ _ _ _ us hl => match us, hl with | [_, _], _ => rfl) fun sa ca f cdv A outer s H E hr =>
    (wss_cons (ws_if (wt_eq (we_var 1) we_int)
  (wss_one (ws_ret (we_tup (wa_cons we_int (wa_cons (we_tup (wa_cons we_int wa_nil)) wa_nil)))))
  wss_nil)
  (wss_cons (ws_set (own' := []) 2 (we_add we_int (we_cS (sa := sa) (ca := ca) 0 (by exact fun _ => c__law_draw) (wa_cons (we_sub (we_var 1) we_int) wa_nil) (hk := Nat.ble_eq_true_of_le (by first | exact Nat.le_refl _ | exact Nat.le_trans (show _ ≤ 3 from by decide) (Nat.le_add_right 3 r))))))
  (wss_cons (ws_tg (we_cS (sa := sa) (ca := ca) 0 (by exact fun _ => c__law_tree) (wa_cons (we_var 2) wa_nil) (hk := Nat.ble_eq_true_of_le (by first | exact Nat.le_refl _ | exact Nat.le_trans (show _ ≤ 3 from by decide) (Nat.le_add_right 3 r)))) (wg_tup (wgs_cons (wg_name 3) (wgs_cons (wg_name 4) wgs_nil))))
  (wss_cons (ws_tg (we_cS (sa := sa) (ca := ca) 0 (by exact fun _ => c__law_tree) (wa_cons (we_sub (we_var 1) (we_var 2)) wa_nil) (hk := Nat.ble_eq_true_of_le (by first | exact Nat.le_refl _ | exact Nat.le_trans (show _ ≤ 3 from by decide) (Nat.le_add_right 3 r)))) (wg_tup (wgs_cons (wg_name 5) (wgs_cons (wg_name 6) wgs_nil))))
  (wss_cons (ws_set (own' := []) 7 (we_cS (sa := sa) (ca := ca) 0 (by exact fun _ => c__law_glued) (wa_cons (we_var 4) (wa_cons (we_var 6) (wa_cons we_int wa_nil))) (hk := Nat.ble_eq_true_of_le (by first | exact Nat.le_refl _ | exact Nat.le_trans (show _ ≤ 3 from by decide) (Nat.le_add_right 3 r)))))
  (wss_cons (ws_if (wt_is (we_var 7) we_non)
  (wss_one (ws_ret (we_tup (wa_cons we_int (wa_cons (we_tup (wa_cons we_int wa_nil)) wa_nil)))))
  wss_nil)
  (wss_cons (ws_tg (we_var 7) (wg_tup (wgs_cons (wg_name 8) (wgs_cons (wg_name 9) (wgs_cons (wg_name 10) wgs_nil)))))
  (wss_one (ws_ret (we_tup (wa_cons (we_tup (wa_cons (we_var 9) (wa_cons (we_var 10) (wa_cons (we_var 3) (wa_cons (we_var 5) wa_nil))))) (wa_cons (we_var 8) wa_nil))))))))))))
theorem sc__law_gaps : FnScope ["row", "most", "table", "x"] ["row"] (defScope s__law_gaps) := ⟨rfl, rfl, rfl, by decide +kernel, rfl, by decide +kernel, by decide +kernel⟩
theorem c__law_gaps (fu : Nat) (h : Has K mg "_law_gaps" s__law_gaps) (z_range : mg "range" = none) (c__law_table : CallP P w K mg base "_law_table" 1 ["row", "most"] 2 (m__law_table fu)) : CallP P w K mg base "_law_gaps" 2 ["row"] 1 (m__law_gaps fu) :=
  callP_mk (k := 1) (own' := []) h sc__law_gaps rfl (fun _ _ _ _ _ _ us hl => match us, hl with | [_], _ => rfl) fun f cdv A outer s H E hr =>
    (wss_cons (ws_set (own' := []) 1 (we_mul (we_ix (we_var 0) we_int) (we_ix (we_var 0) (we_neg we_int))))
  (wss_cons (ws_set (own' := []) 2 (we_cP (by exact fun _ => c__law_table) (wa_cons (we_var 0) (wa_cons (we_var 1) wa_nil))))
  (wss_one (ws_ret (WO.we (wo_lc (ownL := [("x", 3)]) (wi_range2 (wa_cons we_int (wa_cons (we_add (we_var 1) we_int) wa_nil)) (by exact fun _ => z_range)) (fun _ => blkOk_by (by rfl)) (wg_name 3) (wts_one (wt_not (wt_truth (we_ix (we_var 2) (we_var 3))))) (we_var 3)))))))
theorem sc__law_common : FnScope ["row", "told", "x"] ["row"] (defScope s__law_common) := ⟨rfl, rfl, rfl, by decide +kernel, rfl, by decide +kernel, by decide +kernel⟩
theorem c__law_common (fu : Nat) (h : Has K mg "_law_common" s__law_common) (c__law_gcd : CallP P w K mg base "_law_gcd" 1 ["a", "b"] 2 (m__law_gcd fu)) : CallP P w K mg base "_law_common" 2 ["row"] 1 (m__law_common fu) :=
  callP_mk (k := 1) (own' := []) h sc__law_common rfl (fun _ _ _ _ _ _ us hl => match us, hl with | [_], _ => rfl) fun f cdv A outer s H E hr =>
    (wss_cons (ws_set (own' := []) 1 we_int)
  (wss_cons (ws_for (wi_seq (we_var 0)) (wg_name 2)
  (wss_one (ws_set (own' := []) 1 (we_cP (by exact fun _ => c__law_gcd) (wa_cons (we_var 1) (wa_cons (we_var 2) wa_nil))))))
  (wss_one (ws_ret (we_var 1)))))
theorem sc__law_least : FnScope ["row", "told", "x"] ["row"] (defScope s__law_least) := ⟨rfl, rfl, rfl, by decide +kernel, rfl, by decide +kernel, by decide +kernel⟩
theorem c__law_least (fu : Nat) (h : Has K mg "_law_least" s__law_least) (z_set : mg "set" = none) (z_sorted : mg "sorted" = none) (c__law_table : CallP P w K mg base "_law_table" 1 ["row", "most"] 2 (m__law_table fu)) : CallP P w K mg base "_law_least" 2 ["row"] 1 (m__law_least fu) :=
  callP_mk (k := 1) (own' := []) h sc__law_least rfl (fun _ _ _ _ _ _ us hl => match us, hl with | [_], _ => rfl) fun f cdv A outer s H E hr =>
    (wss_cons (ws_set (own' := []) 1 (we_tup wa_nil))
  (wss_cons (ws_for (wi_seq (WO.we (wo_sortset (we_var 0) (by exact fun _ => z_sorted) (by exact fun _ => z_set)))) (wg_name 2)
  (wss_one (ws_if (wt_not (wt_truth (we_ix (we_cP (by exact fun _ => c__law_table) (wa_cons (we_var 1) (wa_cons (we_var 2) wa_nil))) (we_var 2))))
  (wss_one (ws_set (own' := []) 1 (we_add (we_var 1) (we_tup (wa_cons (we_var 2) wa_nil)))))
  wss_nil)))
  (wss_one (ws_ret (we_var 1)))))
theorem sc__law_semigroup : FnScope ["state", "most", "many", "k", "row", "both", "x", "a"] ["state", "most", "many"] (defScope s__law_semigroup) := ⟨rfl, rfl, rfl, by decide +kernel, rfl, by decide +kernel, by decide +kernel⟩
theorem c__law_semigroup (fu : Nat) (h : Has K mg "_law_semigroup" s__law_semigroup) (z_len : mg "len" = none) (z_range : mg "range" = none) (c__law_common : CallP P w K mg base "_law_common" 2 ["row"] 1 (m__law_common fu)) (c__law_draw : CallS P w K mg base "_law_draw" 1 ["state", "many"] 2 m_draw) (c__law_least : CallP P w K mg base "_law_least" 2 ["row"] 1 (m__law_least fu)) : CallS P w K mg base "_law_semigroup" 3 ["state", "most", "many"] 3 (m__law_semigroup fu) :=
  callS_mk (k := 2) (own' := []) h sc__law_semigroup rfl (fun _ _ _ _ _ _ us hl => match us, hl with | [_, _, _], _ => rfl) fun sa ca f cdv A outer s H E hr =>
    (wss_cons (ws_lc (own' := []) 4 (ownL := [("k", 3)]) (wi_range1 (wa_cons (we_add we_int (we_cS (sa := sa) (ca := ca) 0 (by exact fun _ => c__law_draw) (wa_cons (we_sub (we_var 2) we_int) wa_nil))) wa_nil) (by exact fun _ => z_range)) (fun _ => blkOk_by (by rfl)) (wg_name 3) wts_nil (we_add we_int (we_cS (sa := sa) (ca := ca) 0 (by exact fun _ => c__law_draw) (wa_cons (we_sub (we_var 1) we_int) wa_nil))))
  (wss_cons (ws_set (own' := []) 5 (we_cP (by exact fun _ => c__law_common) (wa_cons (we_var 4) wa_nil)))
  (wss_cons (ws_set (own' := []) 4 (we_cP (by exact fun _ => c__law_least) (wa_cons (WO.we (wo_lc (ownL := [("x", 6)]) (wi_seq (we_var 4)) (fun _ => blkOk_by (by rfl)) (wg_name 6) wts_nil (we_div (we_var 6) (we_var 5)))) wa_nil)))
  (wss_cons (ws_if (wt_lt (we_callB (r := rLenX) (fun i => len_c _) cd_len (wa_cons (we_var 4) wa_nil) (by exact fun _ => z_len) (by decide +kernel)) we_int)
  (wss_cons (ws_set (own' := []) 7 (we_add we_int (we_cS (sa := sa) (ca := ca) 0 (by exact fun _ => c__law_draw) (wa_cons (we_sub (we_var 1) we_int) wa_nil))))
  (wss_one (ws_set (own' := []) 4 (we_tup (wa_cons (we_var 7) (wa_cons (we_add (we_var 7) we_int) wa_nil))))))
  wss_nil)
  (wss_one (ws_ret (we_var 4)))))))
theorem sc__law_eq : FnScope ["told", "due", "k"] ["told", "due"] (defScope s__law_eq) := ⟨rfl, rfl, rfl, by decide +kernel, rfl, by decide +kernel, by decide +kernel⟩
theorem c__law_eq (fu : Nat) (h : Has K mg "_law_eq" s__law_eq) (z_bool : mg "bool" = none) (z_int : mg "int" = none) (z_isinstance : mg "isinstance" = none) (z_len : mg "len" = none) (z_list : mg "list" = none) (z_range : mg "range" = none) (z_str : mg "str" = none) (z_tuple : mg "tuple" = none) : ∀ r : Nat, CallP P w K mg base "_law_eq" (0 + r) ["told", "due"] 2 (m__law_eq fu r)
  | 0 => callP_zero h rfl (fun _ _ _ _ _ _ us hl => match us, hl with | [_, _], _ => rfl)
  | r + 1 => by
    have c__law_eq := c__law_eq fu h z_bool z_int z_isinstance z_len z_list z_range z_str z_tuple r
    exact callP_mk (k := 0 + r) (own' := []) h sc__law_eq rfl (fun _ _ _ _ _ _ us hl => match us, hl with | [_, _], _ => rfl) fun f cdv A outer s H E hr =>
    (wss_cons (ws_if (wt_w (ww_or (wt_truth (we_isi (T := "list") (we_var 1) (by exact fun _ => z_isinstance) (by exact fun _ => z_list) (by decide +kernel) (by decide +kernel))) (ww_or1 (wt_truth (we_isi (T := "tuple") (we_var 1) (by exact fun _ => z_isinstance) (by exact fun _ => z_tuple) (by decide +kernel) (by decide +kernel))))))
  (wss_cons (ws_if (wt_w (ww_or (wt_ne (we_isi (T := "list") (we_var 0) (by exact fun _ => z_isinstance) (by exact fun _ => z_list) (by decide +kernel) (by decide +kernel)) (we_isi (T := "list") (we_var 1) (by exact fun _ => z_isinstance) (by exact fun _ => z_list) (by decide +kernel) (by decide +kernel))) (ww_or1 (wt_ne (we_isi (T := "tuple") (we_var 0) (by exact fun _ => z_isinstance) (by exact fun _ => z_tuple) (by decide +kernel) (by decide +kernel)) (we_isi (T := "tuple") (we_var 1) (by exact fun _ => z_isinstance) (by exact fun _ => z_tuple) (by decide +kernel) (by decide +kernel))))))
  (wss_one (ws_ret we_bl))
  wss_nil)
  (wss_cons (ws_if (wt_ne (we_callB (r := rLenX) (fun i => len_c _) cd_len (wa_cons (we_var 0) wa_nil) (by exact fun _ => z_len) (by decide +kernel)) (we_callB (r := rLenX) (fun i => len_c _) cd_len (wa_cons (we_var 1) wa_nil) (by exact fun _ => z_len) (by decide +kernel)))
  (wss_one (ws_ret we_bl))
  wss_nil)
  (wss_one (ws_ret (we_eq (WO.we (wo_lc (ownL := [("k", 2)]) (wi_range1 (wa_cons (we_callB (r := rLenX) (fun i => len_c _) cd_len (wa_cons (we_var 1) wa_nil) (by exact fun _ => z_len) (by decide +kernel)) wa_nil) (by exact fun _ => z_range)) (fun _ => blkOk_by (by rfl)) (wg_name 2) (wts_one (wt_not (wt_truth (we_cP (by exact fun _ => c__law_eq) (wa_cons (we_ix (we_var 0) (we_var 2)) (wa_cons (we_ix (we_var 1) (we_var 2)) wa_nil)) (hk := Nat.ble_eq_true_of_le (by first | exact Nat.le_refl _ | exact Nat.le_trans (show _ ≤ 0 from by decide) (Nat.le_add_right 0 r))))))) (we_var 2))) (we_lst wa_nil))))))
  wss_nil)
  (wss_cons (ws_if (wt_is (we_var 1) we_non)
  (wss_one (ws_ret (we_is (we_var 0) we_non)))
  wss_nil)
  (wss_cons (ws_if (wt_truth (we_isi (T := "str") (we_var 1) (by exact fun _ => z_isinstance) (by exact fun _ => z_str) (by decide +kernel) (by decide +kernel)))
  (wss_one (ws_ret (we_and (we_isi (T := "str") (we_var 0) (by exact fun _ => z_isinstance) (by exact fun _ => z_str) (by decide +kernel) (by decide +kernel)) (we_one (we_eq (we_var 0) (we_var 1))))))
  wss_nil)
  (wss_cons (ws_if (wt_truth (we_isi (T := "bool") (we_var 1) (by exact fun _ => z_isinstance) (by exact fun _ => z_bool) (by decide +kernel) (by decide +kernel)))
  (wss_one (ws_ret (we_and (we_isi (T := "bool") (we_var 0) (by exact fun _ => z_isinstance) (by exact fun _ => z_bool) (by decide +kernel) (by decide +kernel)) (we_one (we_eq (we_var 0) (we_var 1))))))
  wss_nil)
  (wss_one (ws_ret (we_and (we_isi (T := "int") (we_var 0) (by exact fun _ => z_isinstance) (by exact fun _ => z_int) (by decide +kernel) (by decide +kernel)) (we_and (we_not (we_isi (T := "bool") (we_var 0) (by exact fun _ => z_isinstance) (by exact fun _ => z_bool) (by decide +kernel) (by decide +kernel))) (we_one (we_eq (we_var 0) (we_var 1)))))))))))
theorem sc_gap_of_tree : FnScope ["tree", "a", "b", "first", "second"] ["tree"] (defScope s_gap_of_tree) := ⟨rfl, rfl, rfl, by decide +kernel, rfl, by decide +kernel, by decide +kernel⟩
theorem c_gap_of_tree (fu : Nat) (h : Has K mg "gap_of_tree" s_gap_of_tree)  : ∀ r : Nat, CallP P w K mg base "gap_of_tree" (0 + r) ["tree"] 1 (m_gap_of_tree fu r)
  | 0 => callP_zero h rfl (fun _ _ _ _ _ _ us hl => match us, hl with | [_], _ => rfl)
  | r + 1 => by
    have c_gap_of_tree := c_gap_of_tree fu h  r
    exact callP_mk (k := 0 + r) (own' := []) h sc_gap_of_tree rfl (fun _ _ _ _ _ _ us hl => match us, hl with | [_], _ => rfl) fun f cdv A outer s H E hr =>
    (wss_cons (ws_if (wt_eq (we_var 0) we_int)
  (wss_one (ws_ret (we_neg we_int)))
  wss_nil)
  (wss_cons (ws_tg (we_var 0) (wg_tup (wgs_cons (wg_name 1) (wgs_cons (wg_name 2) (wgs_cons (wg_name 3) (wgs_cons (wg_name 4) wgs_nil))))))
  (wss_one (ws_ret (we_add (we_add (we_mul (we_var 1) (we_cP (by exact fun _ => c_gap_of_tree) (wa_cons (we_var 3) wa_nil) (hk := Nat.ble_eq_true_of_le (by first | exact Nat.le_refl _ | exact Nat.le_trans (show _ ≤ 0 from by decide) (Nat.le_add_right 0 r))))) (we_mul (we_var 2) (we_cP (by exact fun _ => c_gap_of_tree) (wa_cons (we_var 4) wa_nil) (hk := Nat.ble_eq_true_of_le (by first | exact Nat.le_refl _ | exact Nat.le_trans (show _ ≤ 0 from by decide) (Nat.le_add_right 0 r)))))) (we_mul (we_var 1) (we_var 2)))))))
theorem sc_genus_of_tree : FnScope ["tree", "a", "b", "first", "second"] ["tree"] (defScope s_genus_of_tree) := ⟨rfl, rfl, rfl, by decide +kernel, rfl, by decide +kernel, by decide +kernel⟩
theorem c_genus_of_tree (fu : Nat) (h : Has K mg "genus_of_tree" s_genus_of_tree)  : ∀ r : Nat, CallP P w K mg base "genus_of_tree" (0 + r) ["tree"] 1 (m_genus_of_tree fu r)
  | 0 => callP_zero h rfl (fun _ _ _ _ _ _ us hl => match us, hl with | [_], _ => rfl)
  | r + 1 => by
    have c_genus_of_tree := c_genus_of_tree fu h  r
    exact callP_mk (k := 0 + r) (own' := []) h sc_genus_of_tree rfl (fun _ _ _ _ _ _ us hl => match us, hl with | [_], _ => rfl) fun f cdv A outer s H E hr =>
    (wss_cons (ws_if (wt_eq (we_var 0) we_int)
  (wss_one (ws_ret we_int))
  wss_nil)
  (wss_cons (ws_tg (we_var 0) (wg_tup (wgs_cons (wg_name 1) (wgs_cons (wg_name 2) (wgs_cons (wg_name 3) (wgs_cons (wg_name 4) wgs_nil))))))
  (wss_one (ws_ret (we_add (we_add (we_mul (we_var 1) (we_cP (by exact fun _ => c_genus_of_tree) (wa_cons (we_var 3) wa_nil) (hk := Nat.ble_eq_true_of_le (by first | exact Nat.le_refl _ | exact Nat.le_trans (show _ ≤ 0 from by decide) (Nat.le_add_right 0 r))))) (we_mul (we_var 2) (we_cP (by exact fun _ => c_genus_of_tree) (wa_cons (we_var 4) wa_nil) (hk := Nat.ble_eq_true_of_le (by first | exact Nat.le_refl _ | exact Nat.le_trans (show _ ≤ 0 from by decide) (Nat.le_add_right 0 r)))))) (we_div (we_mul (we_sub (we_var 1) we_int) (we_sub (we_var 2) we_int)) we_int))))))
theorem sc_common : FnScope ["numbers", "told", "number"] ["numbers"] (defScope s_common) := ⟨rfl, rfl, rfl, by decide +kernel, rfl, by decide +kernel, by decide +kernel⟩
theorem c_common (fu : Nat) (h : Has K mg "common" s_common) (z_gcd : mg "gcd" = some (.builtin "math.gcd")) : CallP P w K mg base "common" 1 ["numbers"] 1 (m_common fu) :=
  callP_mk (k := 0) (own' := []) h sc_common rfl (fun _ _ _ _ _ _ us hl => match us, hl with | [_], _ => rfl) fun f cdv A outer s H E hr =>
    (wss_cons (ws_set (own' := []) 1 we_int)
  (wss_cons (ws_for (wi_seq (we_var 0)) (wg_name 2)
  (wss_one (ws_set (own' := []) 1 (we_gcd (wa_cons (we_var 1) (wa_cons (we_var 2) wa_nil)) (fun _ => z_gcd)))))
  (wss_one (ws_ret (we_var 1)))))
theorem sc_table_of : FnScope ["semigroup", "most", "told", "number", "step"] ["semigroup", "most"] (defScope s_table_of) := ⟨rfl, rfl, rfl, by decide +kernel, rfl, by decide +kernel, by decide +kernel⟩
theorem c_table_of (fu : Nat) (h : Has K mg "table_of" s_table_of) (z_any : mg "any" = none) (z_range : mg "range" = none) : CallP P w K mg base "table_of" 1 ["semigroup", "most"] 2 (m_table_of fu) :=
  callP_mk (k := 0) (own' := []) h sc_table_of rfl (fun _ _ _ _ _ _ us hl => match us, hl with | [_, _], _ => rfl) fun f cdv A outer s H E hr =>
    (wss_cons (ws_setO (own' := [2]) 2 (wo_rep (we_lst (wa_cons we_bl wa_nil)) (we_add (we_var 1) we_int)))
  (wss_cons (ws_six 2 we_int we_bl)
  (wss_cons (ws_for (wi_range2 (wa_cons we_int (wa_cons (we_add (we_var 1) we_int) wa_nil)) (by exact fun _ => z_range)) (wg_name 3)
  (wss_one (ws_six 2 (we_var 3) (we_callB (r := rAny) (fun i => cr_any (Fam.calm _ i)) cd_any (wa_cons (WO.we (wo_lc (ownL := [("step", 4)]) (wi_seq (we_var 0)) (fun _ => blkOk_by (by rfl)) (wg_name 4) wts_nil (we_and (we_ge (we_var 3) (we_var 4)) (we_one (we_ixO 2 (we_sub (we_var 3) (we_var 4))))))) wa_nil) (by exact fun _ => z_any) (by decide +kernel)))))
  (wss_fz (own1 := []) 2 (wss_one (ws_ret (we_var 2)))))))
theorem sc_is_sum : FnScope ["numbers", "n"] ["numbers", "n"] (defScope s_is_sum) := ⟨rfl, rfl, rfl, by decide +kernel, rfl, by decide +kernel, by decide +kernel⟩
theorem c_is_sum (fu : Nat) (h : Has K mg "is_sum" s_is_sum) (c_table_of : CallP P w K mg base "table_of" 1 ["semigroup", "most"] 2 (m_table_of fu)) : CallP P w K mg base "is_sum" 2 ["numbers", "n"] 2 (m_is_sum fu) :=
  callP_mk (k := 1) (own' := []) h sc_is_sum rfl (fun _ _ _ _ _ _ us hl => match us, hl with | [_, _], _ => rfl) fun f cdv A outer s H E hr =>
    (wss_one (ws_ret (we_ix (we_cP (by exact fun _ => c_table_of) (wa_cons (we_var 0) (wa_cons (we_var 1) wa_nil))) (we_var 1))))
theorem sc_is_gluing : FnScope ["semigroup", "first", "second", "a", "b"] ["semigroup", "first", "second"] (defScope s_is_gluing) := ⟨rfl, rfl, rfl, by decide +kernel, rfl, by decide +kernel, by decide +kernel⟩
theorem c_is_gluing (fu : Nat) (h : Has K mg "is_gluing" s_is_gluing) (z_gcd : mg "gcd" = some (.builtin "math.gcd")) (z_len : mg "len" = none) (z_list : mg "list" = none) (z_min : mg "min" = none) (z_sorted : mg "sorted" = none) (c_common : CallP P w K mg base "common" 1 ["numbers"] 1 (m_common fu)) (c_is_sum : CallP P w K mg base "is_sum" 2 ["numbers", "n"] 2 (m_is_sum fu)) : CallP P w K mg base "is_gluing" 3 ["semigroup", "first", "second"] 3 (m_is_gluing fu) :=
  callP_mk (k := 2) (own' := []) h sc_is_gluing rfl (fun _ _ _ _ _ _ us hl => match us, hl with | [_, _, _], _ => rfl) fun f cdv A outer s H E hr =>
    (wss_cons (ws_if (wt_w (ww_or (wt_eq (we_callB (r := rLenX) (fun i => len_c _) cd_len (wa_cons (we_var 1) wa_nil) (by exact fun _ => z_len) (by decide +kernel)) we_int) (ww_or (wt_eq (we_callB (r := rLenX) (fun i => len_c _) cd_len (wa_cons (we_var 2) wa_nil) (by exact fun _ => z_len) (by decide +kernel)) we_int) (ww_or (wt_ne (WO.we (wo_callTy (r := rListX) (fun _ => call_list_of) co_list (wa_cons (we_var 1) wa_nil) (by exact fun _ => z_list) (by decide +kernel))) (WO.we (wo_callB (r := rSortedW) (fun _ => cr_sortedW) co_sortedW (wa_cons (we_var 1) wa_nil) (by exact fun _ => z_sorted) (by decide +kernel)))) (ww_or1 (wt_ne (WO.we (wo_callTy (r := rListX) (fun _ => call_list_of) co_list (wa_cons (we_var 2) wa_nil) (by exact fun _ => z_list) (by decide +kernel))) (WO.we (wo_callB (r := rSortedW) (fun _ => cr_sortedW) co_sortedW (wa_cons (we_var 2) wa_nil) (by exact fun _ => z_sorted) (by decide +kernel)))))))))
  (wss_one (ws_ret we_bl))
  wss_nil)
  (wss_cons (ws_if (wt_w (ww_or (wt_ne (WO.we (wo_callB (r := rSortedW) (fun _ => cr_sortedW) co_sortedW (wa_cons (we_add (we_var 1) (we_var 2)) wa_nil) (by exact fun _ => z_sorted) (by decide +kernel))) (WO.we (wo_callTy (r := rListX) (fun _ => call_list_of) co_list (wa_cons (we_var 0) wa_nil) (by exact fun _ => z_list) (by decide +kernel)))) (ww_or1 (wt_ne (we_ix (we_var 1) we_int) (we_ix (we_var 0) we_int)))))
  (wss_one (ws_ret we_bl))
  wss_nil)
  (wss_cons (ws_par 3 4 (wa_cons (we_cP (by exact fun _ => c_common) (wa_cons (we_var 1) wa_nil)) (wa_cons (we_cP (by exact fun _ => c_common) (wa_cons (we_var 2) wa_nil)) wa_nil)))
  (wss_one (ws_ret (we_and (we_gt (we_callB (r := rMin2X) (fun i => call_min2 rfl) cd_min2 (wa_cons (we_var 3) (wa_cons (we_var 4) wa_nil)) (by exact fun _ => z_min) (by decide +kernel)) we_int) (we_and (we_eq (we_gcd (wa_cons (we_var 3) (wa_cons (we_var 4) wa_nil)) (fun _ => z_gcd)) we_int) (we_and (we_cP (by exact fun _ => c_is_sum) (wa_cons (we_var 1) (wa_cons (we_mul (we_var 3) (we_var 4)) wa_nil))) (we_one (we_cP (by exact fun _ => c_is_sum) (wa_cons (we_var 2) (wa_cons (we_mul (we_var 3) (we_var 4)) wa_nil))))))))))))
theorem sc_glue : FnScope ["one", "other", "a", "b", "step"] ["one", "other", "a", "b"] (defScope s_glue) := ⟨rfl, rfl, rfl, by decide +kernel, rfl, by decide +kernel, by decide +kernel⟩
theorem c_glue (fu : Nat) (h : Has K mg "glue" s_glue) (z_sorted : mg "sorted" = none) (z_tuple : mg "tuple" = none) : CallP P w K mg base "glue" 1 ["one", "other", "a", "b"] 4 (m_glue fu) :=
  callP_mk (k := 0) (own' := []) h sc_glue rfl (fun _ _ _ _ _ _ us hl => match us, hl with | [_, _, _, _], _ => rfl) fun f cdv A outer s H E hr =>
    (wss_one (ws_ret (we_callTy (r := rTupX) (fun _ => call_tuple_of) cd_tuple (wa_cons (WO.we (wo_callB (r := rSortedW) (fun _ => cr_sortedW) co_sortedW (wa_cons (we_add (WO.we (wo_lc (ownL := [("step", 4)]) (wi_seq (we_var 0)) (fun _ => blkOk_by (by rfl)) (wg_name 4) wts_nil (we_mul (we_var 2) (we_var 4)))) (WO.we (wo_lc (ownL := [("step", 4)]) (wi_seq (we_var 1)) (fun _ => blkOk_by (by rfl)) (wg_name 4) wts_nil (we_mul (we_var 3) (we_var 4))))) wa_nil) (by exact fun _ => z_sorted) (by decide +kernel))) wa_nil) (by exact fun _ => z_tuple) (by decide +kernel))))
theorem sc_least_place : FnScope ["told", "done", "best", "place", "number"] ["told", "done"] (defScope s_least_place) := ⟨rfl, rfl, rfl, by decide +kernel, rfl, by decide +kernel, by decide +kernel⟩
theorem c_least_place (fu : Nat) (h : Has K mg "least_place" s_least_place) (z_enumerate : mg "enumerate" = none) : CallP P w K mg base "least_place" 1 ["told", "done"] 2 (m_least_place fu) :=
  callP_mk (k := 0) (own' := []) h sc_least_place rfl (fun _ _ _ _ _ _ us hl => match us, hl with | [_, _], _ => rfl) fun f cdv A outer s H E hr =>
    (wss_cons (ws_set (own' := []) 2 we_non)
  (wss_cons (ws_for (wi_enum (wa_cons (we_var 0) wa_nil) (by exact fun _ => z_enumerate)) (wg_tup (wgs_cons (wg_name 3) (wgs_cons (wg_name 4) wgs_nil)))
  (wss_one (ws_if (wt_w (ww_and (wt_isn (we_var 4) we_non) (ww_and (wt_not (wt_truth (we_ix (we_var 1) (we_var 3)))) (ww_and1 (wt_w (ww_or (wt_is (we_var 2) we_non) (ww_or1 (wt_lt (we_var 4) (we_ix (we_var 0) (we_var 2))))))))))
  (wss_one (ws_set (own' := []) 2 (we_var 3)))
  wss_nil)))
  (wss_one (ws_ret (we_var 2)))))
theorem sc_remainders : FnScope ["generators", "element", "told", "done", "place", "one", "goal"] ["generators", "element"] (defScope s_remainders) := ⟨rfl, rfl, rfl, by decide +kernel, rfl, by decide +kernel, by decide +kernel⟩
theorem c_remainders (fu : Nat) (h : Has K mg "remainders" s_remainders) (c_least_place : CallP P w K mg base "least_place" 1 ["told", "done"] 2 (m_least_place fu)) : CallP P w K mg base "remainders" 2 ["generators", "element"] 2 (m_remainders fu) :=
  callP_mk (k := 1) (own' := []) h sc_remainders rfl (fun _ _ _ _ _ _ us hl => match us, hl with | [_, _], _ => rfl) fun f cdv A outer s H E hr =>
    (wss_cons (ws_setO (own' := [2]) 2 (wo_rep (we_lst (wa_cons we_non wa_nil)) (we_var 1)))
  (wss_cons (ws_six 2 we_int we_int)
  (wss_cons (ws_setO (own' := [2, 3]) 3 (wo_rep (we_lst (wa_cons we_bl wa_nil)) (we_var 1)))
  (wss_cons (ws_set (own' := [2, 3]) 4 we_int)
  (wss_cons (ws_whI (wt_isn (we_var 4) we_non)
  (wss_cons (ws_six 3 (we_var 4) we_bl)
  (wss_cons (ws_for (wi_seq (we_var 0)) (wg_name 5)
  (wss_cons (ws_set (own' := [2, 3]) 6 (we_mod (we_add (we_var 4) (we_var 5)) (we_var 1)))
  (wss_one (ws_if (wt_w (ww_or (wt_is (we_ixO 2 (we_var 6)) we_non) (ww_or1 (wt_lt (we_add (we_ixO 2 (we_var 4)) (we_var 5)) (we_ixO 2 (we_var 6))))))
  (wss_one (ws_six 2 (we_var 6) (we_add (we_ixO 2 (we_var 4)) (we_var 5))))
  wss_nil))))
  (wss_one (ws_set (own' := [2, 3]) 4 (we_thaw 2 (we_thaw 3 (we_cP (by exact fun _ => c_least_place) (wa_cons (we_var 2) (wa_cons (we_var 3) wa_nil))))))))))
  (wss_fz (own1 := [3]) 2 (wss_one (ws_ret (we_var 2)))))))))
theorem sc_greatest_gap : FnScope ["generators", "first"] ["generators"] (defScope s_greatest_gap) := ⟨rfl, rfl, rfl, by decide +kernel, rfl, by decide +kernel, by decide +kernel⟩
theorem c_greatest_gap (fu : Nat) (h : Has K mg "greatest_gap" s_greatest_gap) (z_max : mg "max" = none) (c_remainders : CallP P w K mg base "remainders" 2 ["generators", "element"] 2 (m_remainders fu)) : CallP P w K mg base "greatest_gap" 3 ["generators"] 1 (m_greatest_gap fu) :=
  callP_mk (k := 2) (own' := []) h sc_greatest_gap rfl (fun _ _ _ _ _ _ us hl => match us, hl with | [_], _ => rfl) fun f cdv A outer s H E hr =>
    (wss_cons (ws_set (own' := []) 1 (we_ix (we_var 0) we_int))
  (wss_one (ws_ret (we_sub (we_callB (r := rMaxG) (fun i => cr_maxG (Fam.calm _ i) (room_u i)) cd_maxG (wa_cons (we_cP (by exact fun _ => c_remainders) (wa_cons (we_var 0) (wa_cons (we_var 1) wa_nil))) wa_nil) (by exact fun _ => z_max) (by decide +kernel)) (we_var 1)))))
theorem sc_genus : FnScope ["generators", "first", "one"] ["generators"] (defScope s_genus) := ⟨rfl, rfl, rfl, by decide +kernel, rfl, by decide +kernel, by decide +kernel⟩
theorem c_genus (fu : Nat) (h : Has K mg "genus" s_genus) (z_sum : mg "sum" = none) (c_remainders : CallP P w K mg base "remainders" 2 ["generators", "element"] 2 (m_remainders fu)) : CallP P w K mg base "genus" 3 ["generators"] 1 (m_genus fu) :=
  callP_mk (k := 2) (own' := []) h sc_genus rfl (fun _ _ _ _ _ _ us hl => match us, hl with | [_], _ => rfl) fun f cdv A outer s H E hr =>
    (wss_cons (ws_set (own' := []) 1 (we_ix (we_var 0) we_int))
  (wss_one (ws_ret (we_callB (r := rSumA) (fun i => cr_sumA (Fam.calm _ i)) cd_sum (wa_cons (WO.we (wo_lc (ownL := [("one", 2)]) (wi_seq (we_cP (by exact fun _ => c_remainders) (wa_cons (we_var 0) (wa_cons (we_var 1) wa_nil)))) (fun _ => blkOk_by (by rfl)) (wg_name 2) wts_nil (we_div (we_var 2) (we_var 1)))) wa_nil) (by exact fun _ => z_sum) (by decide +kernel)))))
theorem sc_law : FnScope ["script", "state", "turn", "one", "other", "found", "row", "a", "b", "gaps", "first", "second", "most", "x", "lots", "tree"] ["script"] (defScope s_law) := ⟨rfl, rfl, rfl, by decide +kernel, rfl, by decide +kernel, by decide +kernel⟩
theorem ok_law (fu : Nat) {f : Addr} {fd : FuncData} (F : Fun K "law" "law" s_law f fd) (c_state : CallX P w K mg base "_law_state" 1 ["script"] (spState K)) (z_len : mg "len" = none) (z_max : mg "max" = none) (z_range : mg "range" = none) (z_tuple : mg "tuple" = none) (c__law_draw : CallS P w K mg base "_law_draw" 1 ["state", "many"] 2 m_draw) (c__law_eq : CallP P w K mg base "_law_eq" 12 ["told", "due"] 2 (m__law_eq fu 12)) (c__law_gaps : CallP P w K mg base "_law_gaps" 2 ["row"] 1 (m__law_gaps fu)) (c__law_glued : CallS P w K mg base "_law_glued" 3 ["state", "one", "other", "most"] 4 (m__law_glued fu)) (c__law_pick : CallS P w K mg base "_law_pick" 2 ["state", "row"] 2 (m__law_pick fu)) (c__law_semigroup : CallS P w K mg base "_law_semigroup" 3 ["state", "most", "many"] 3 (m__law_semigroup fu)) (c__law_tree : CallS P w K mg base "_law_tree" 15 ["state", "size"] 2 (m__law_tree fu 12)) (c_gap_of_tree : CallP P w K mg base "gap_of_tree" 12 ["tree"] 1 (m_gap_of_tree fu 12)) (c_genus : CallP P w K mg base "genus" 3 ["generators"] 1 (m_genus fu)) (c_genus_of_tree : CallP P w K mg base "genus_of_tree" 12 ["tree"] 1 (m_genus_of_tree fu 12)) (c_glue : CallP P w K mg base "glue" 1 ["one", "other", "a", "b"] 4 (m_glue fu)) (c_greatest_gap : CallP P w K mg base "greatest_gap" 3 ["generators"] 1 (m_greatest_gap fu)) (c_is_gluing : CallP P w K mg base "is_gluing" 3 ["semigroup", "first", "second"] 3 (m_is_gluing fu))
    (hm : ∀ ns : List Int, ns.length ≤ 63 → ∃ s', b_law fu (List.replicate 16 none) (stateOf ns) = some (.rt (.bool true), s')) : FnOk P w K mg base CX0 16 f fd ["script"] (spLaw K) :=
  fn_law (k := 15) (j := 1) (own' := []) (body := b_law fu) F sc_law (c_state.mono (by decide)) rfl rfl rfl (fun sa ca cdv A outer s H E hr hcd =>
    (wss_cons (ws_for (wi_range1 (wa_cons we_int wa_nil) (by exact fun _ => z_range)) (wg_name 2)
  (wss_cons (ws_par 3 4 (wa_cons (we_cS (sa := sa) (ca := ca) 1 (by exact fun _ => c__law_semigroup) (wa_cons we_int (wa_cons we_int wa_nil))) (wa_cons (we_cS (sa := sa) (ca := ca) 1 (by exact fun _ => c__law_pick) (wa_cons (we_lst (wa_cons (we_tup (wa_cons we_int wa_nil)) (wa_cons (we_cS (sa := sa) (ca := ca) 1 (by exact fun _ => c__law_semigroup) (wa_cons we_int (wa_cons we_int wa_nil))) wa_nil))) wa_nil)) wa_nil)))
  (wss_cons (ws_set (own' := []) 5 (we_cS (sa := sa) (ca := ca) 1 (by exact fun _ => c__law_glued) (wa_cons (we_var 3) (wa_cons (we_var 4) (wa_cons we_int wa_nil)))))
  (wss_one (ws_if (wt_w (ww_and (wt_isn (we_var 5) we_non) (ww_and1 (wt_le (we_callB (r := rLenX) (fun i => len_c _) cd_len (wa_cons (we_ix (we_var 5) we_int) wa_nil) (by exact fun _ => z_len) (by decide +kernel)) we_int))))
  (wss_cons (ws_tg (we_var 5) (wg_tup (wgs_cons (wg_name 6) (wgs_cons (wg_name 7) (wgs_cons (wg_name 8) wgs_nil)))))
  (wss_cons (ws_par3 9 10 11 (wa_cons (we_cP (by exact fun _ => c__law_gaps) (wa_cons (we_var 6) wa_nil)) (wa_cons (we_cP (by exact fun _ => c__law_gaps) (wa_cons (we_var 3) wa_nil)) (wa_cons (we_if (wt_ne (we_var 4) (we_tup (wa_cons we_int wa_nil))) (we_cP (by exact fun _ => c__law_gaps) (wa_cons (we_var 4) wa_nil)) (we_lst wa_nil)) wa_nil))))
  (wss_cons (ws_set (own' := []) 12 (we_callB (r := rMaxG) (fun i => cr_maxG (Fam.calm _ i) (room_u i)) cd_maxG (wa_cons (we_var 9) wa_nil) (by exact fun _ => z_max) (by decide +kernel)))
  (wss_cons (ws_if (wt_ne (we_var 12) (we_add (we_add (we_mul (we_var 7) (we_callB (r := rMaxG) (fun i => cr_maxG (Fam.calm _ i) (room_u i)) cd_maxG (wa_cons (we_var 10) wa_nil) (by exact fun _ => z_max) (by decide +kernel))) (we_mul (we_var 8) (we_if (wt_ne (we_var 11) (we_lst wa_nil)) (we_callB (r := rMaxG) (fun i => cr_maxG (Fam.calm _ i) (room_u i)) cd_maxG (wa_cons (we_var 11) wa_nil) (by exact fun _ => z_max) (by decide +kernel)) (we_neg we_int)))) (we_mul (we_var 7) (we_var 8))))
  (wss_one (ws_ret we_bl))
  wss_nil)
  (wss_cons (ws_if (wt_ne (we_callB (r := rLenX) (fun i => len_c _) cd_len (wa_cons (we_var 9) wa_nil) (by exact fun _ => z_len) (by decide +kernel)) (we_add (we_add (we_mul (we_var 7) (we_callB (r := rLenX) (fun i => len_c _) cd_len (wa_cons (we_var 10) wa_nil) (by exact fun _ => z_len) (by decide +kernel))) (we_mul (we_var 8) (we_callB (r := rLenX) (fun i => len_c _) cd_len (wa_cons (we_var 11) wa_nil) (by exact fun _ => z_len) (by decide +kernel)))) (we_div (we_mul (we_sub (we_var 7) we_int) (we_sub (we_var 8) we_int)) we_int)))
  (wss_one (ws_ret we_bl))
  wss_nil)
  (wss_cons (ws_if (wt_w (ww_or (wt_not (wt_truth (we_cP (by exact fun _ => c__law_eq) (wa_cons (we_cP (by exact fun _ => c_glue) (wa_cons (we_var 3) (wa_cons (we_var 4) (wa_cons (we_var 7) (wa_cons (we_var 8) wa_nil))))) (wa_cons (we_var 6) wa_nil))))) (ww_or (wt_not (wt_truth (we_cP (by exact fun _ => c__law_eq) (wa_cons (we_cP (by exact fun _ => c_greatest_gap) (wa_cons (we_var 6) wa_nil)) (wa_cons (we_var 12) wa_nil))))) (ww_or1 (wt_not (wt_truth (we_cP (by exact fun _ => c__law_eq) (wa_cons (we_cP (by exact fun _ => c_genus) (wa_cons (we_var 6) wa_nil)) (wa_cons (we_callB (r := rLenX) (fun i => len_c _) cd_len (wa_cons (we_var 9) wa_nil) (by exact fun _ => z_len) (by decide +kernel)) wa_nil)))))))))
  (wss_one (ws_ret we_bl))
  wss_nil)
  (wss_cons (ws_set (own' := []) 14 (we_tup (wa_cons (we_callTy (r := rTupX) (fun _ => call_tuple_of) cd_tuple (wa_cons (WO.we (wo_lc (ownL := [("x", 13)]) (wi_seq (we_var 3)) (fun _ => blkOk_by (by rfl)) (wg_name 13) wts_nil (we_mul (we_var 7) (we_var 13)))) wa_nil) (by exact fun _ => z_tuple) (by decide +kernel)) (wa_cons (we_callTy (r := rTupX) (fun _ => call_tuple_of) cd_tuple (wa_cons (WO.we (wo_lc (ownL := [("x", 13)]) (wi_seq (we_var 4)) (fun _ => blkOk_by (by rfl)) (wg_name 13) wts_nil (we_mul (we_var 8) (we_var 13)))) wa_nil) (by exact fun _ => z_tuple) (by decide +kernel)) wa_nil))))
  (wss_cons (ws_set (own' := []) 14 (we_if (wt_eq (we_ix (we_ix (we_var 14) we_int) we_int) (we_ix (we_var 6) we_int)) (we_var 14) (we_revA (we_var 14))))
  (wss_one (ws_if (wt_not (wt_truth (we_cP (by exact fun _ => c__law_eq) (wa_cons (we_cP (by exact fun _ => c_is_gluing) (wa_cons (we_var 6) (wa_cons (we_ix (we_var 14) we_int) (wa_cons (we_ix (we_var 14) we_int) wa_nil)))) (wa_cons we_bl wa_nil)))))
  (wss_one (ws_ret we_bl))
  wss_nil))))))))))
  wss_nil)))))
  (wss_cons (ws_tg (we_cS (sa := sa) (ca := ca) 1 (by exact fun _ => c__law_tree) (wa_cons (we_add we_int (we_cS (sa := sa) (ca := ca) 1 (by exact fun _ => c__law_draw) (wa_cons we_int wa_nil))) wa_nil)) (wg_tup (wgs_cons (wg_name 15) (wgs_cons (wg_name 6) wgs_nil))))
  (wss_cons (ws_set (own' := []) 9 (we_if (wt_ne (we_var 6) (we_tup (wa_cons we_int wa_nil))) (we_cP (by exact fun _ => c__law_gaps) (wa_cons (we_var 6) wa_nil)) (we_lst wa_nil)))
  (wss_cons (ws_if (wt_w (ww_or (wt_not (wt_truth (we_cP (by exact fun _ => c__law_eq) (wa_cons (we_cP (by exact fun _ => c_gap_of_tree) (wa_cons (we_var 15) wa_nil)) (wa_cons (we_if (wt_ne (we_var 9) (we_lst wa_nil)) (we_callB (r := rMaxG) (fun i => cr_maxG (Fam.calm _ i) (room_u i)) cd_maxG (wa_cons (we_var 9) wa_nil) (by exact fun _ => z_max) (by decide +kernel)) (we_neg we_int)) wa_nil))))) (ww_or1 (wt_not (wt_truth (we_cP (by exact fun _ => c__law_eq) (wa_cons (we_cP (by exact fun _ => c_genus_of_tree) (wa_cons (we_var 15) wa_nil)) (wa_cons (we_callB (r := rLenX) (fun i => len_c _) cd_len (wa_cons (we_var 9) wa_nil) (by exact fun _ => z_len) (by decide +kernel)) wa_nil))))))))
  (wss_one (ws_ret we_bl))
  wss_nil)
  (wss_one (ws_ret (we_or (we_eq (we_var 9) (we_lst wa_nil)) (we_one (we_eq (we_mul we_int (we_callB (r := rLenX) (fun i => len_c _) cd_len (wa_cons (we_var 9) wa_nil) (by exact fun _ => z_len) (by decide +kernel))) (we_add (we_callB (r := rMaxG) (fun i => cr_maxG (Fam.calm _ i) (room_u i)) cd_maxG (wa_cons (we_var 9) wa_nil) (by exact fun _ => z_max) (by decide +kernel)) we_int))))))))))) (by first | exact Or.inl rfl | exact Or.inr rfl) (by first | exact Or.inl rfl | exact Or.inr (Or.inl rfl)) rfl (fun _ => rfl) hm
end
theorem all_mk (fu : Nat) (hm : ∀ ns : List Int, ns.length ≤ 63 → ∃ s', b_law fu (List.replicate 16 none) (stateOf ns) = some (.rt (.bool true), s')) {l : PySem.W.OpenLaw} {w : World} {K : PySem.W.Frag} {h : Heap} {mg : Str → Option Value} {fa : Addr} {q : Program} (X : K.In h) (G_ : h.Ns mainGlobals mg) (hfa : mg "law" = some (.ref fa)) (T : TabsAt q mg h)
    {f0 : Addr} {od0 an0 : Option Addr} {sl0 : Array (Option Value)} {oc0 kV0 dc0 pm0 cd0 ct0 : Value}
    {f1 : Addr} {od1 an1 : Option Addr} {sl1 : Array (Option Value)} {oc1 kV1 dc1 pm1 cd1 ct1 : Value}
    {f2 : Addr} {od2 an2 : Option Addr} {sl2 : Array (Option Value)} {oc2 kV2 dc2 pm2 cd2 ct2 : Value}
    {f3 : Addr} {od3 an3 : Option Addr} {sl3 : Array (Option Value)} {oc3 kV3 dc3 pm3 cd3 ct3 : Value}
    {f4 : Addr} {od4 an4 : Option Addr} {sl4 : Array (Option Value)} {oc4 kV4 dc4 pm4 cd4 ct4 : Value}
    {f5 : Addr} {od5 an5 : Option Addr} {sl5 : Array (Option Value)} {oc5 kV5 dc5 pm5 cd5 ct5 : Value}
    {f6 : Addr} {od6 an6 : Option Addr} {sl6 : Array (Option Value)} {oc6 kV6 dc6 pm6 cd6 ct6 : Value}
    {f7 : Addr} {od7 an7 : Option Addr} {sl7 : Array (Option Value)} {oc7 kV7 dc7 pm7 cd7 ct7 : Value}
    {f8 : Addr} {od8 an8 : Option Addr} {sl8 : Array (Option Value)} {oc8 kV8 dc8 pm8 cd8 ct8 : Value}
    {f9 : Addr} {od9 an9 : Option Addr} {sl9 : Array (Option Value)} {oc9 kV9 dc9 pm9 cd9 ct9 : Value}
    {f10 : Addr} {od10 an10 : Option Addr} {sl10 : Array (Option Value)} {oc10 kV10 dc10 pm10 cd10 ct10 : Value}
    {f11 : Addr} {od11 an11 : Option Addr} {sl11 : Array (Option Value)} {oc11 kV11 dc11 pm11 cd11 ct11 : Value}
    {f12 : Addr} {od12 an12 : Option Addr} {sl12 : Array (Option Value)} {oc12 kV12 dc12 pm12 cd12 ct12 : Value}
    {f13 : Addr} {od13 an13 : Option Addr} {sl13 : Array (Option Value)} {oc13 kV13 dc13 pm13 cd13 ct13 : Value}
    {f14 : Addr} {od14 an14 : Option Addr} {sl14 : Array (Option Value)} {oc14 kV14 dc14 pm14 cd14 ct14 : Value}
    {f15 : Addr} {od15 an15 : Option Addr} {sl15 : Array (Option Value)} {oc15 kV15 dc15 pm15 cd15 ct15 : Value}
    {f16 : Addr} {od16 an16 : Option Addr} {sl16 : Array (Option Value)} {oc16 kV16 dc16 pm16 cd16 ct16 : Value}
    {f17 : Addr} {od17 an17 : Option Addr} {sl17 : Array (Option Value)} {oc17 kV17 dc17 pm17 cd17 ct17 : Value}
    {f18 : Addr} {od18 an18 : Option Addr} {sl18 : Array (Option Value)} {oc18 kV18 dc18 pm18 cd18 ct18 : Value}
    {f19 : Addr} {od19 an19 : Option Addr} {sl19 : Array (Option Value)} {oc19 kV19 dc19 pm19 cd19 ct19 : Value}
    {f20 : Addr} {od20 an20 : Option Addr} {sl20 : Array (Option Value)} {oc20 kV20 dc20 pm20 cd20 ct20 : Value}
    {f21 : Addr} {od21 an21 : Option Addr} {sl21 : Array (Option Value)} {oc21 kV21 dc21 pm21 cd21 ct21 : Value}
    {f22 : Addr} {od22 an22 : Option Addr} {sl22 : Array (Option Value)} {oc22 kV22 dc22 pm22 cd22 ct22 : Value}
    {f23 : Addr} {od23 an23 : Option Addr} {sl23 : Array (Option Value)} {oc23 kV23 dc23 pm23 cd23 ct23 : Value}
    (a0 : PySem.W.nsIn K mainGlobals "_law_state" = some (some (.ref f0))) (l0 : K.lookup f0 = some ⟨oc0, od0, .func (PySem.W.fnOf "_law_state" "_law_state" (defArgs s__law_state) (defBody s__law_state) (defScope s__law_state) .none kV0 dc0 pm0 an0 cd0 ct0), sl0⟩) (c0 : PySem.W.codeIn K cd0 "_law_state" = true) (k0 : PySem.W.keepIn K (.ref f0) = true)
    (a1 : PySem.W.nsIn K mainGlobals "_law_table" = some (some (.ref f1))) (l1 : K.lookup f1 = some ⟨oc1, od1, .func (PySem.W.fnOf "_law_table" "_law_table" (defArgs s__law_table) (defBody s__law_table) (defScope s__law_table) .none kV1 dc1 pm1 an1 cd1 ct1), sl1⟩) (c1 : PySem.W.codeIn K cd1 "_law_table" = true) (k1 : PySem.W.keepIn K (.ref f1) = true)
    (a2 : PySem.W.nsIn K mainGlobals "_law_draw" = some (some (.ref f2))) (l2 : K.lookup f2 = some ⟨oc2, od2, .func (PySem.W.fnOf "_law_draw" "_law_draw" (defArgs s__law_draw) (defBody s__law_draw) (defScope s__law_draw) .none kV2 dc2 pm2 an2 cd2 ct2), sl2⟩) (c2 : PySem.W.codeIn K cd2 "_law_draw" = true) (k2 : PySem.W.keepIn K (.ref f2) = true)
    (a3 : PySem.W.nsIn K mainGlobals "_law_pick" = some (some (.ref f3))) (l3 : K.lookup f3 = some ⟨oc3, od3, .func (PySem.W.fnOf "_law_pick" "_law_pick" (defArgs s__law_pick) (defBody s__law_pick) (defScope s__law_pick) .none kV3 dc3 pm3 an3 cd3 ct3), sl3⟩) (c3 : PySem.W.codeIn K cd3 "_law_pick" = true) (k3 : PySem.W.keepIn K (.ref f3) = true)
    (a4 : PySem.W.nsIn K mainGlobals "_law_gcd" = some (some (.ref f4))) (l4 : K.lookup f4 = some ⟨oc4, od4, .func (PySem.W.fnOf "_law_gcd" "_law_gcd" (defArgs s__law_gcd) (defBody s__law_gcd) (defScope s__law_gcd) .none kV4 dc4 pm4 an4 cd4 ct4), sl4⟩) (c4 : PySem.W.codeIn K cd4 "_law_gcd" = true) (k4 : PySem.W.keepIn K (.ref f4) = true)
    (a5 : PySem.W.nsIn K mainGlobals "_law_glued" = some (some (.ref f5))) (l5 : K.lookup f5 = some ⟨oc5, od5, .func (PySem.W.fnOf "_law_glued" "_law_glued" (defArgs s__law_glued) (defBody s__law_glued) (defScope s__law_glued) .none kV5 dc5 pm5 an5 cd5 ct5), sl5⟩) (c5 : PySem.W.codeIn K cd5 "_law_glued" = true) (k5 : PySem.W.keepIn K (.ref f5) = true)
    (a6 : PySem.W.nsIn K mainGlobals "_law_tree" = some (some (.ref f6))) (l6 : K.lookup f6 = some ⟨oc6, od6, .func (PySem.W.fnOf "_law_tree" "_law_tree" (defArgs s__law_tree) (defBody s__law_tree) (defScope s__law_tree) .none kV6 dc6 pm6 an6 cd6 ct6), sl6⟩) (c6 : PySem.W.codeIn K cd6 "_law_tree" = true) (k6 : PySem.W.keepIn K (.ref f6) = true)
    (a7 : PySem.W.nsIn K mainGlobals "_law_gaps" = some (some (.ref f7))) (l7 : K.lookup f7 = some ⟨oc7, od7, .func (PySem.W.fnOf "_law_gaps" "_law_gaps" (defArgs s__law_gaps) (defBody s__law_gaps) (defScope s__law_gaps) .none kV7 dc7 pm7 an7 cd7 ct7), sl7⟩) (c7 : PySem.W.codeIn K cd7 "_law_gaps" = true) (k7 : PySem.W.keepIn K (.ref f7) = true)
    (a8 : PySem.W.nsIn K mainGlobals "_law_common" = some (some (.ref f8))) (l8 : K.lookup f8 = some ⟨oc8, od8, .func (PySem.W.fnOf "_law_common" "_law_common" (defArgs s__law_common) (defBody s__law_common) (defScope s__law_common) .none kV8 dc8 pm8 an8 cd8 ct8), sl8⟩) (c8 : PySem.W.codeIn K cd8 "_law_common" = true) (k8 : PySem.W.keepIn K (.ref f8) = true)
    (a9 : PySem.W.nsIn K mainGlobals "_law_least" = some (some (.ref f9))) (l9 : K.lookup f9 = some ⟨oc9, od9, .func (PySem.W.fnOf "_law_least" "_law_least" (defArgs s__law_least) (defBody s__law_least) (defScope s__law_least) .none kV9 dc9 pm9 an9 cd9 ct9), sl9⟩) (c9 : PySem.W.codeIn K cd9 "_law_least" = true) (k9 : PySem.W.keepIn K (.ref f9) = true)
    (a10 : PySem.W.nsIn K mainGlobals "_law_semigroup" = some (some (.ref f10))) (l10 : K.lookup f10 = some ⟨oc10, od10, .func (PySem.W.fnOf "_law_semigroup" "_law_semigroup" (defArgs s__law_semigroup) (defBody s__law_semigroup) (defScope s__law_semigroup) .none kV10 dc10 pm10 an10 cd10 ct10), sl10⟩) (c10 : PySem.W.codeIn K cd10 "_law_semigroup" = true) (k10 : PySem.W.keepIn K (.ref f10) = true)
    (a11 : PySem.W.nsIn K mainGlobals "_law_eq" = some (some (.ref f11))) (l11 : K.lookup f11 = some ⟨oc11, od11, .func (PySem.W.fnOf "_law_eq" "_law_eq" (defArgs s__law_eq) (defBody s__law_eq) (defScope s__law_eq) .none kV11 dc11 pm11 an11 cd11 ct11), sl11⟩) (c11 : PySem.W.codeIn K cd11 "_law_eq" = true) (k11 : PySem.W.keepIn K (.ref f11) = true)
    (a12 : PySem.W.nsIn K mainGlobals "gap_of_tree" = some (some (.ref f12))) (l12 : K.lookup f12 = some ⟨oc12, od12, .func (PySem.W.fnOf "gap_of_tree" "gap_of_tree" (defArgs s_gap_of_tree) (defBody s_gap_of_tree) (defScope s_gap_of_tree) .none kV12 dc12 pm12 an12 cd12 ct12), sl12⟩) (c12 : PySem.W.codeIn K cd12 "gap_of_tree" = true) (k12 : PySem.W.keepIn K (.ref f12) = true)
    (a13 : PySem.W.nsIn K mainGlobals "genus_of_tree" = some (some (.ref f13))) (l13 : K.lookup f13 = some ⟨oc13, od13, .func (PySem.W.fnOf "genus_of_tree" "genus_of_tree" (defArgs s_genus_of_tree) (defBody s_genus_of_tree) (defScope s_genus_of_tree) .none kV13 dc13 pm13 an13 cd13 ct13), sl13⟩) (c13 : PySem.W.codeIn K cd13 "genus_of_tree" = true) (k13 : PySem.W.keepIn K (.ref f13) = true)
    (a14 : PySem.W.nsIn K mainGlobals "common" = some (some (.ref f14))) (l14 : K.lookup f14 = some ⟨oc14, od14, .func (PySem.W.fnOf "common" "common" (defArgs s_common) (defBody s_common) (defScope s_common) .none kV14 dc14 pm14 an14 cd14 ct14), sl14⟩) (c14 : PySem.W.codeIn K cd14 "common" = true) (k14 : PySem.W.keepIn K (.ref f14) = true)
    (a15 : PySem.W.nsIn K mainGlobals "table_of" = some (some (.ref f15))) (l15 : K.lookup f15 = some ⟨oc15, od15, .func (PySem.W.fnOf "table_of" "table_of" (defArgs s_table_of) (defBody s_table_of) (defScope s_table_of) .none kV15 dc15 pm15 an15 cd15 ct15), sl15⟩) (c15 : PySem.W.codeIn K cd15 "table_of" = true) (k15 : PySem.W.keepIn K (.ref f15) = true)
    (a16 : PySem.W.nsIn K mainGlobals "is_sum" = some (some (.ref f16))) (l16 : K.lookup f16 = some ⟨oc16, od16, .func (PySem.W.fnOf "is_sum" "is_sum" (defArgs s_is_sum) (defBody s_is_sum) (defScope s_is_sum) .none kV16 dc16 pm16 an16 cd16 ct16), sl16⟩) (c16 : PySem.W.codeIn K cd16 "is_sum" = true) (k16 : PySem.W.keepIn K (.ref f16) = true)
    (a17 : PySem.W.nsIn K mainGlobals "is_gluing" = some (some (.ref f17))) (l17 : K.lookup f17 = some ⟨oc17, od17, .func (PySem.W.fnOf "is_gluing" "is_gluing" (defArgs s_is_gluing) (defBody s_is_gluing) (defScope s_is_gluing) .none kV17 dc17 pm17 an17 cd17 ct17), sl17⟩) (c17 : PySem.W.codeIn K cd17 "is_gluing" = true) (k17 : PySem.W.keepIn K (.ref f17) = true)
    (a18 : PySem.W.nsIn K mainGlobals "glue" = some (some (.ref f18))) (l18 : K.lookup f18 = some ⟨oc18, od18, .func (PySem.W.fnOf "glue" "glue" (defArgs s_glue) (defBody s_glue) (defScope s_glue) .none kV18 dc18 pm18 an18 cd18 ct18), sl18⟩) (c18 : PySem.W.codeIn K cd18 "glue" = true) (k18 : PySem.W.keepIn K (.ref f18) = true)
    (a19 : PySem.W.nsIn K mainGlobals "least_place" = some (some (.ref f19))) (l19 : K.lookup f19 = some ⟨oc19, od19, .func (PySem.W.fnOf "least_place" "least_place" (defArgs s_least_place) (defBody s_least_place) (defScope s_least_place) .none kV19 dc19 pm19 an19 cd19 ct19), sl19⟩) (c19 : PySem.W.codeIn K cd19 "least_place" = true) (k19 : PySem.W.keepIn K (.ref f19) = true)
    (a20 : PySem.W.nsIn K mainGlobals "remainders" = some (some (.ref f20))) (l20 : K.lookup f20 = some ⟨oc20, od20, .func (PySem.W.fnOf "remainders" "remainders" (defArgs s_remainders) (defBody s_remainders) (defScope s_remainders) .none kV20 dc20 pm20 an20 cd20 ct20), sl20⟩) (c20 : PySem.W.codeIn K cd20 "remainders" = true) (k20 : PySem.W.keepIn K (.ref f20) = true)
    (a21 : PySem.W.nsIn K mainGlobals "greatest_gap" = some (some (.ref f21))) (l21 : K.lookup f21 = some ⟨oc21, od21, .func (PySem.W.fnOf "greatest_gap" "greatest_gap" (defArgs s_greatest_gap) (defBody s_greatest_gap) (defScope s_greatest_gap) .none kV21 dc21 pm21 an21 cd21 ct21), sl21⟩) (c21 : PySem.W.codeIn K cd21 "greatest_gap" = true) (k21 : PySem.W.keepIn K (.ref f21) = true)
    (a22 : PySem.W.nsIn K mainGlobals "genus" = some (some (.ref f22))) (l22 : K.lookup f22 = some ⟨oc22, od22, .func (PySem.W.fnOf "genus" "genus" (defArgs s_genus) (defBody s_genus) (defScope s_genus) .none kV22 dc22 pm22 an22 cd22 ct22), sl22⟩) (c22 : PySem.W.codeIn K cd22 "genus" = true) (k22 : PySem.W.keepIn K (.ref f22) = true)
    (a23 : PySem.W.nsIn K mainGlobals "law" = some (some (.ref f23))) (l23 : K.lookup f23 = some ⟨oc23, od23, .func (PySem.W.fnOf "law" "law" (defArgs s_law) (defBody s_law) (defScope s_law) .none kV23 dc23 pm23 an23 cd23 ct23), sl23⟩) (c23 : PySem.W.codeIn K cd23 "law" = true) (k23 : PySem.W.keepIn K (.ref f23) = true)
    (z_abs : PySem.W.nsIn K mainGlobals "abs" = some none)
    (z_any : PySem.W.nsIn K mainGlobals "any" = some none)
    (z_bool : PySem.W.nsIn K mainGlobals "bool" = some none)
    (z_enumerate : PySem.W.nsIn K mainGlobals "enumerate" = some none)
    (z_gcd : PySem.W.nsIn K mainGlobals "gcd" = some (some (.builtin "math.gcd")))
    (z_int : PySem.W.nsIn K mainGlobals "int" = some none)
    (z_isinstance : PySem.W.nsIn K mainGlobals "isinstance" = some none)
    (z_len : PySem.W.nsIn K mainGlobals "len" = some none)
    (z_list : PySem.W.nsIn K mainGlobals "list" = some none)
    (z_max : PySem.W.nsIn K mainGlobals "max" = some none)
    (z_min : PySem.W.nsIn K mainGlobals "min" = some none)
    (z_range : PySem.W.nsIn K mainGlobals "range" = some none)
    (z_set : PySem.W.nsIn K mainGlobals "set" = some none)
    (z_sorted : PySem.W.nsIn K mainGlobals "sorted" = some none)
    (z_str : PySem.W.nsIn K mainGlobals "str" = some none)
    (z_sum : PySem.W.nsIn K mainGlobals "sum" = some none)
    (z_tuple : PySem.W.nsIn K mainGlobals "tuple" = some none) :
    LamX.LawAtS l w K CX0 16 63 "script" mg fa h := by
  have e := hfa.symm.trans (PySem.W.mg_of X G_ a23)
  cases e
  have z_abs := PySem.W.mg_none_of X G_ z_abs
  have z_any := PySem.W.mg_none_of X G_ z_any
  have z_bool := PySem.W.mg_none_of X G_ z_bool
  have z_enumerate := PySem.W.mg_none_of X G_ z_enumerate
  have z_gcd := PySem.W.mg_of X G_ z_gcd
  have z_int := PySem.W.mg_none_of X G_ z_int
  have z_isinstance := PySem.W.mg_none_of X G_ z_isinstance
  have z_len := PySem.W.mg_none_of X G_ z_len
  have z_list := PySem.W.mg_none_of X G_ z_list
  have z_max := PySem.W.mg_none_of X G_ z_max
  have z_min := PySem.W.mg_none_of X G_ z_min
  have z_range := PySem.W.mg_none_of X G_ z_range
  have z_set := PySem.W.mg_none_of X G_ z_set
  have z_sorted := PySem.W.mg_none_of X G_ z_sorted
  have z_str := PySem.W.mg_none_of X G_ z_str
  have z_sum := PySem.W.mg_none_of X G_ z_sum
  have z_tuple := PySem.W.mg_none_of X G_ z_tuple
  have h__law_state : Has K mg "_law_state" s__law_state := ⟨_, _, fun_mk (st := s__law_state) l0 c0 k0, PySem.W.mg_of X G_ a0⟩
  have h__law_table : Has K mg "_law_table" s__law_table := ⟨_, _, fun_mk (st := s__law_table) l1 c1 k1, PySem.W.mg_of X G_ a1⟩
  have h__law_draw : Has K mg "_law_draw" s__law_draw := ⟨_, _, fun_mk (st := s__law_draw) l2 c2 k2, PySem.W.mg_of X G_ a2⟩
  have h__law_pick : Has K mg "_law_pick" s__law_pick := ⟨_, _, fun_mk (st := s__law_pick) l3 c3 k3, PySem.W.mg_of X G_ a3⟩
  have h__law_gcd : Has K mg "_law_gcd" s__law_gcd := ⟨_, _, fun_mk (st := s__law_gcd) l4 c4 k4, PySem.W.mg_of X G_ a4⟩
  have h__law_glued : Has K mg "_law_glued" s__law_glued := ⟨_, _, fun_mk (st := s__law_glued) l5 c5 k5, PySem.W.mg_of X G_ a5⟩
  have h__law_tree : Has K mg "_law_tree" s__law_tree := ⟨_, _, fun_mk (st := s__law_tree) l6 c6 k6, PySem.W.mg_of X G_ a6⟩
  have h__law_gaps : Has K mg "_law_gaps" s__law_gaps := ⟨_, _, fun_mk (st := s__law_gaps) l7 c7 k7, PySem.W.mg_of X G_ a7⟩
  have h__law_common : Has K mg "_law_common" s__law_common := ⟨_, _, fun_mk (st := s__law_common) l8 c8 k8, PySem.W.mg_of X G_ a8⟩
  have h__law_least : Has K mg "_law_least" s__law_least := ⟨_, _, fun_mk (st := s__law_least) l9 c9 k9, PySem.W.mg_of X G_ a9⟩
  have h__law_semigroup : Has K mg "_law_semigroup" s__law_semigroup := ⟨_, _, fun_mk (st := s__law_semigroup) l10 c10 k10, PySem.W.mg_of X G_ a10⟩
  have h__law_eq : Has K mg "_law_eq" s__law_eq := ⟨_, _, fun_mk (st := s__law_eq) l11 c11 k11, PySem.W.mg_of X G_ a11⟩
  have h_gap_of_tree : Has K mg "gap_of_tree" s_gap_of_tree := ⟨_, _, fun_mk (st := s_gap_of_tree) l12 c12 k12, PySem.W.mg_of X G_ a12⟩
  have h_genus_of_tree : Has K mg "genus_of_tree" s_genus_of_tree := ⟨_, _, fun_mk (st := s_genus_of_tree) l13 c13 k13, PySem.W.mg_of X G_ a13⟩
  have h_common : Has K mg "common" s_common := ⟨_, _, fun_mk (st := s_common) l14 c14 k14, PySem.W.mg_of X G_ a14⟩
  have h_table_of : Has K mg "table_of" s_table_of := ⟨_, _, fun_mk (st := s_table_of) l15 c15 k15, PySem.W.mg_of X G_ a15⟩
  have h_is_sum : Has K mg "is_sum" s_is_sum := ⟨_, _, fun_mk (st := s_is_sum) l16 c16 k16, PySem.W.mg_of X G_ a16⟩
  have h_is_gluing : Has K mg "is_gluing" s_is_gluing := ⟨_, _, fun_mk (st := s_is_gluing) l17 c17 k17, PySem.W.mg_of X G_ a17⟩
  have h_glue : Has K mg "glue" s_glue := ⟨_, _, fun_mk (st := s_glue) l18 c18 k18, PySem.W.mg_of X G_ a18⟩
  have h_least_place : Has K mg "least_place" s_least_place := ⟨_, _, fun_mk (st := s_least_place) l19 c19 k19, PySem.W.mg_of X G_ a19⟩
  have h_remainders : Has K mg "remainders" s_remainders := ⟨_, _, fun_mk (st := s_remainders) l20 c20 k20, PySem.W.mg_of X G_ a20⟩
  have h_greatest_gap : Has K mg "greatest_gap" s_greatest_gap := ⟨_, _, fun_mk (st := s_greatest_gap) l21 c21 k21, PySem.W.mg_of X G_ a21⟩
  have h_genus : Has K mg "genus" s_genus := ⟨_, _, fun_mk (st := s_genus) l22 c22 k22, PySem.W.mg_of X G_ a22⟩
  letI iT : Tabs := ⟨[]⟩
  refine ⟨PySem.W.fnOf "law" "law" (defArgs s_law) (defBody s_law) (defScope s_law) .none kV23 dc23 pm23 an23 cd23 ct23, [], spLaw K, (fun p hp => by cases hp), (fun p hp => by cases hp), (fun p hp => by cases hp), fun s v => .of_eq rfl, fun H a ns hl _ hH hS => ⟨a, ns, rfl, hS, hl, (fun b hb => by cases (show b ∈ ([] : List Addr) from hb)), fun _ => rfl⟩, fun base _ _ TB => ?_⟩
  · skip
    have c__law_state := callState (P := l.prog) (w := w) (base := base) h__law_state z_int z_abs
    have c__law_table := c__law_table (P := l.prog) (w := w) (base := base) fu h__law_table z_range
    have c__law_draw := callDraw (P := l.prog) (w := w) (base := base) h__law_draw z_int z_len
    have c__law_pick := c__law_pick (P := l.prog) (w := w) (base := base) fu h__law_pick z_len c__law_draw
    have c__law_gcd := c__law_gcd (P := l.prog) (w := w) (base := base) fu h__law_gcd z_int
    have c__law_glued := c__law_glued (P := l.prog) (w := w) (base := base) fu h__law_glued z_max z_min z_range z_sorted z_tuple c__law_gcd c__law_pick c__law_table
    have c__law_tree := c__law_tree (P := l.prog) (w := w) (base := base) fu h__law_tree c__law_draw c__law_glued 12
    have c__law_gaps := c__law_gaps (P := l.prog) (w := w) (base := base) fu h__law_gaps z_range c__law_table
    have c__law_common := c__law_common (P := l.prog) (w := w) (base := base) fu h__law_common c__law_gcd
    have c__law_least := c__law_least (P := l.prog) (w := w) (base := base) fu h__law_least z_set z_sorted c__law_table
    have c__law_semigroup := c__law_semigroup (P := l.prog) (w := w) (base := base) fu h__law_semigroup z_len z_range c__law_common c__law_draw c__law_least
    have c__law_eq := c__law_eq (P := l.prog) (w := w) (base := base) fu h__law_eq z_bool z_int z_isinstance z_len z_list z_range z_str z_tuple 12
    have c_gap_of_tree := c_gap_of_tree (P := l.prog) (w := w) (base := base) fu h_gap_of_tree  12
    have c_genus_of_tree := c_genus_of_tree (P := l.prog) (w := w) (base := base) fu h_genus_of_tree  12
    have c_common := c_common (P := l.prog) (w := w) (base := base) fu h_common z_gcd
    have c_table_of := c_table_of (P := l.prog) (w := w) (base := base) fu h_table_of z_any z_range
    have c_is_sum := c_is_sum (P := l.prog) (w := w) (base := base) fu h_is_sum c_table_of
    have c_is_gluing := c_is_gluing (P := l.prog) (w := w) (base := base) fu h_is_gluing z_gcd z_len z_list z_min z_sorted c_common c_is_sum
    have c_glue := c_glue (P := l.prog) (w := w) (base := base) fu h_glue z_sorted z_tuple
    have c_least_place := c_least_place (P := l.prog) (w := w) (base := base) fu h_least_place z_enumerate
    have c_remainders := c_remainders (P := l.prog) (w := w) (base := base) fu h_remainders c_least_place
    have c_greatest_gap := c_greatest_gap (P := l.prog) (w := w) (base := base) fu h_greatest_gap z_max c_remainders
    have c_genus := c_genus (P := l.prog) (w := w) (base := base) fu h_genus z_sum c_remainders
    exact ok_law fu (fun_mk (st := s_law) l23 c23 k23) c__law_state z_len z_max z_range z_tuple c__law_draw c__law_eq c__law_gaps c__law_glued c__law_pick c__law_semigroup c__law_tree c_gap_of_tree c_genus c_genus_of_tree c_glue c_greatest_gap c_is_gluing hm
end K40

open PySem PySem.W PyProof.Rows
set_option maxHeartbeats 0 in
theorem PySem.Challenge.cw_gaphouse_k40_whole_gaps_of_gluings_holds : PySem.Challenge.rw_gaphouse_k40_whole_gaps_of_gluings.Holds := by
  w_on; o_law; k_head; (case hw => w_witness2)
  k_fill
  refine G.walk_tabs (l := PySem.Challenge.rw_gaphouse_k40_whole_gaps_of_gluings) (n := 63) (k := 16) (x := "script") rfl (by decide) rfl ⟨rfl, by decide, by decide⟩ (fun w h Y => PySem.W.kIn_of Y) ?F
  case F =>
    intro w mg fa h KX G_ hmg T
    refine' K40.all_mk K40.fuel K40.law_true KX G_ hmg T  ?a0 ?l0 ?c0 ?k0 ?a1 ?l1 ?c1 ?k1 ?a2 ?l2 ?c2 ?k2 ?a3 ?l3 ?c3 ?k3 ?a4 ?l4 ?c4 ?k4 ?a5 ?l5 ?c5 ?k5 ?a6 ?l6 ?c6 ?k6 ?a7 ?l7 ?c7 ?k7 ?a8 ?l8 ?c8 ?k8 ?a9 ?l9 ?c9 ?k9 ?a10 ?l10 ?c10 ?k10 ?a11 ?l11 ?c11 ?k11 ?a12 ?l12 ?c12 ?k12 ?a13 ?l13 ?c13 ?k13 ?a14 ?l14 ?c14 ?k14 ?a15 ?l15 ?c15 ?k15 ?a16 ?l16 ?c16 ?k16 ?a17 ?l17 ?c17 ?k17 ?a18 ?l18 ?c18 ?k18 ?a19 ?l19 ?c19 ?k19 ?a20 ?l20 ?c20 ?k20 ?a21 ?l21 ?c21 ?k21 ?a22 ?l22 ?c22 ?k22 ?a23 ?l23 ?c23 ?k23 ?z_abs ?z_any ?z_bool ?z_enumerate ?z_gcd ?z_int ?z_isinstance ?z_len ?z_list ?z_max ?z_min ?z_range ?z_set ?z_sorted ?z_str ?z_sum ?z_tuple
    (case a0 => k_is)
    (case l0 => k_is)
    (case c0 => k_is)
    (case k0 => k_is)
    (case a1 => k_is)
    (case l1 => k_is)
    (case c1 => k_is)
    (case k1 => k_is)
    (case a2 => k_is)
    (case l2 => k_is)
    (case c2 => k_is)
    (case k2 => k_is)
    (case a3 => k_is)
    (case l3 => k_is)
    (case c3 => k_is)
    (case k3 => k_is)
    (case a4 => k_is)
    (case l4 => k_is)
    (case c4 => k_is)
    (case k4 => k_is)
    (case a5 => k_is)
    (case l5 => k_is)
    (case c5 => k_is)
    (case k5 => k_is)
    (case a6 => k_is)
    (case l6 => k_is)
    (case c6 => k_is)
    (case k6 => k_is)
    (case a7 => k_is)
    (case l7 => k_is)
    (case c7 => k_is)
    (case k7 => k_is)
    (case a8 => k_is)
    (case l8 => k_is)
    (case c8 => k_is)
    (case k8 => k_is)
    (case a9 => k_is)
    (case l9 => k_is)
    (case c9 => k_is)
    (case k9 => k_is)
    (case a10 => k_is)
    (case l10 => k_is)
    (case c10 => k_is)
    (case k10 => k_is)
    (case a11 => k_is)
    (case l11 => k_is)
    (case c11 => k_is)
    (case k11 => k_is)
    (case a12 => k_is)
    (case l12 => k_is)
    (case c12 => k_is)
    (case k12 => k_is)
    (case a13 => k_is)
    (case l13 => k_is)
    (case c13 => k_is)
    (case k13 => k_is)
    (case a14 => k_is)
    (case l14 => k_is)
    (case c14 => k_is)
    (case k14 => k_is)
    (case a15 => k_is)
    (case l15 => k_is)
    (case c15 => k_is)
    (case k15 => k_is)
    (case a16 => k_is)
    (case l16 => k_is)
    (case c16 => k_is)
    (case k16 => k_is)
    (case a17 => k_is)
    (case l17 => k_is)
    (case c17 => k_is)
    (case k17 => k_is)
    (case a18 => k_is)
    (case l18 => k_is)
    (case c18 => k_is)
    (case k18 => k_is)
    (case a19 => k_is)
    (case l19 => k_is)
    (case c19 => k_is)
    (case k19 => k_is)
    (case a20 => k_is)
    (case l20 => k_is)
    (case c20 => k_is)
    (case k20 => k_is)
    (case a21 => k_is)
    (case l21 => k_is)
    (case c21 => k_is)
    (case k21 => k_is)
    (case a22 => k_is)
    (case l22 => k_is)
    (case c22 => k_is)
    (case k22 => k_is)
    (case a23 => k_is)
    (case l23 => k_is)
    (case c23 => k_is)
    (case k23 => k_is)
    (case z_abs => k_is)
    (case z_any => k_is)
    (case z_bool => k_is)
    (case z_enumerate => k_is)
    (case z_gcd => k_is)
    (case z_int => k_is)
    (case z_isinstance => k_is)
    (case z_len => k_is)
    (case z_list => k_is)
    (case z_max => k_is)
    (case z_min => k_is)
    (case z_range => k_is)
    (case z_set => k_is)
    (case z_sorted => k_is)
    (case z_str => k_is)
    (case z_sum => k_is)
    (case z_tuple => k_is)

