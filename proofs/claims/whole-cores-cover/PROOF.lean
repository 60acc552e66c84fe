import PyProof.Rows.All
import Wide.All
import OpenK.AllK
import Wide.FinOn
import Lean
import KE.GoesEnum
import HandS.ForMost
import HandS.ForExc
import HandS.Walk
import HandS.Defaults
import HandS.MakeKwOnly
import HandS.SortKw
import HandS.Deep
import HandS.Property
import HandS.Gcd
import HandS.ExcInit
import PySem.Challenge.RW_neverlate_k69_whole_cores_cover
import KE.KStateDown
import HandS.Head0
import HandS.Head1
import HandS.Head2
import HandS.HeadEnd
import HandS.HeadHook1
import HandS.HeadHook2
import HandS.Head3
import KE.KExcSuper
import HandS.GenList
set_option Elab.async false
set_option linter.all false
set_option maxRecDepth 100000
set_option maxHeartbeats 4000000
/-! R1: rules that the layer lacks: enumerate(tuple), sum(tuple), max(xs, default = d), calls with keywords in a try. -/
namespace PySem
open Sem (wp)
theorem nl_enum_new (l : Addr) (items : Array Value) :
    Meets (Builtin.«enumerate.__new__» ⟨[.type "enumerate", .ref l], []⟩) (fun _ R s => s.heap.IsTuple l items ∧
      R (.ok (.ret (.ref (s.heap.push { cls := .type "tuple_iterator", data := .fields #[.ref l, .int 0 0] }).objs.size)))
        { s with heap := (s.heap.push { cls := .type "tuple_iterator", data := .fields #[.ref l, .int 0 0] }).push { cls := .type "enumerate", data := .fields #[.none, .bool false, .ref s.heap.objs.size, rawInt 0, .none, .none] } }) :=
  .of_wp fun prog w A R s h => by
    obtain ⟨hp, g, d, tk, os⟩ := s
    obtain ⟨hl, h⟩ := h
    have hsub := sub_enumerate
    wp_walk using wpAny_pyIter_tuple hl
    refine wpAny_stack_any fun st => wpAny_pure ?_
    split
    · rename_i c _ _ _ _ _
      cases (c == Value.type "enumerate")
      · wp_walk using wpAny_pyIter_tuple hl
        exact ⟨_, rfl, h⟩
      · wp_walk using wpAny_pyIter_tuple hl
        exact ⟨_, rfl, h⟩
    · wp_walk using wpAny_pyIter_tuple hl
      exact ⟨_, rfl, h⟩
theorem nl_enum_tuple {prog : Program} {w : World} {A : Around} {E : Value → Shared → Prop} {s : Shared} {l : Addr} {items : Array Value} {Q : Value → Shared → Prop} (hL : s.heap.IsTuple l items)
    (h : ∀ h', IsEnum h' (s.heap.objs.size + 1) s.heap.objs.size 0 .none → h'.IsTupleIter s.heap.objs.size l 0 → (∀ b o, s.heap.get? b = some o → h'.get? b = some o) → Q (.ref (s.heap.objs.size + 1)) { s with heap := h' }) :
    wpAny (model prog w) A (call (.type "enumerate") [.ref l]) Q E s := by
  refine callType_new F.called_enumerate (by decide) (F.typeCall_enumerate_1 _) (F.newCall_enumerate_1 _) (fun obj => F.args_object_init_2 obj _) F.entry_enumerate_new (nl_enum_new l items) ⟨hL, ?_⟩
  have hz : (s.heap.push { cls := .type "tuple_iterator", data := .fields #[.ref l, .int 0 0] }).objs.size = s.heap.objs.size + 1 := Heap.size_push ..
  show _ ∧ _
  rw [hz]
  have he : IsEnum ((s.heap.push { cls := .type "tuple_iterator", data := .fields #[.ref l, .int 0 0] }).push { cls := .type "enumerate", data := .fields #[.none, .bool false, .ref s.heap.objs.size, rawInt 0, .none, .none] }) (s.heap.objs.size + 1) s.heap.objs.size 0 .none := by
    have q := Heap.get?_push_size (s.heap.push { cls := .type "tuple_iterator", data := .fields #[.ref l, .int 0 0] }) (o := { cls := .type "enumerate", data := .fields #[.none, .bool false, .ref s.heap.objs.size, rawInt 0, .none, .none] }) rfl
    rw [hz] at q
    exact q
  exact ⟨⟨_, he, rfl⟩, h _ he ⟨_, Heap.get?_push_of_some _ (Heap.get?_push_size _ rfl), rfl, rfl⟩ fun b o x => Heap.get?_push_of_some _ (Heap.get?_push_of_some _ x)⟩
end PySem

namespace L2
open PySem PySem.Spec PyProof.Rows
/-- the pairs (i, x) of the tuple at a -/
def NlIte (K : PySem.W.Frag) (a : Addr) : It :=
  ⟨fun i H => ∃ xs x, SqT K H a xs ∧ xs[i]? = some x, fun i H v H' => ∃ T x, v = .ref T ∧ H T = none ∧ H' = upd H T (.tup [.int (i : Nat), x]) ∧ ∀ xs, SqT K H a xs → xs[i]? = some x, fun i H => ∃ xs, SqT K H a xs ∧ xs.length ≤ i⟩
theorem nl_turn_enum {P : Program} {w : World} {K : PySem.W.Frag} {elts : List Expr} {kk : Nat} {tpos : Pos} (a e it : Addr) :
    Turn P w K (.Tuple elts kk tpos) (NlIte K a) [e, it] e (fun i h => (∃ old, IsEnum h e it ((i : Nat) : Int) old) ∧ h.IsTupleIter it a i ∧ e ≠ it ∧ a ≠ it ∧ e ≠ a) where
  mem := List.mem_cons_self
  obj := fun i h st b hb => by
    obtain ⟨⟨old, he⟩, ⟨o, ho, hc, hd⟩, _⟩ := st
    rcases List.mem_cons.mp hb with z | z
    · rw [z]; exact ⟨_, he, fun v q => nomatch q⟩
    · exact ⟨o, by rw [List.mem_singleton.mp z]; exact ho, fun v q => by rw [hd] at q; cases q⟩
  keep := fun i h h' st k => let ⟨⟨old, he⟩, hi, hne⟩ := st; ⟨⟨old, k e (by simp) _ he⟩, hi.at fun o q => k it (by simp) o q, hne⟩
  item := by
    intro X hP hw hK hc i pins s σ H E I hf st hg
    subst hP hw hK
    obtain ⟨⟨old, he⟩, hit, hne, hai, hea⟩ := st
    obtain ⟨xs, x, hq, hx⟩ := hg
    obtain ⟨its, rv, p, hz⟩ := I.tuple hq
    obtain ⟨u, hu, ru⟩ := rv.get hx
    have hel : e < s.heap.objs.size := Heap.lt_size he
    have hil : it < s.heap.objs.size := by
      obtain ⟨_, q, _⟩ := hit
      exact Heap.lt_size q
    have hxi : its.toArray[i]? = some u := by simpa using hu
    have hlt : i < its.toArray.size := (Array.getElem?_eq_some_iff.mp hxi).1
    refine wpAny_pyNext_enum_itemD (Draws.tuple (A := X.A.in1) (I.ok.hd hc) it a hai its.toArray) he ⟨hit, p⟩ hlt hne (by simp [hne, hea]) fun v h' tk hv ho hst hT hsz hk => ?_
    have ev : v = u := Option.some.inj (hv.symm.trans hxi)
    subst ev
    refine ⟨_, rfl, wpAny_letOwnedTupleGo_enum (s := { s with heap := h', toks := tk + 1 }) ho fun h'' he' sb => ?_⟩
    have hT2 : h''.get? s.heap.objs.size = some { cls := .type "tuple", data := .seq #[.int i tk, v] } := (sb.2 _ (Nat.ne_of_gt hel)).trans hT
    have new : ObjOk X.prog X.w (upd H s.heap.objs.size (.tup [.int (i : Nat), x])) h'' s.heap.objs.size (.tup [.int (i : Nat), x]) :=
      ⟨by show 2 ≤ sizeLine; decide, [.int i tk, v], .cons ⟨_, rfl⟩ (.cons ru .nil), ⟨_, hT2, rfl, _, rfl⟩⟩
    have I1 : Inv X pins σ (upd H s.heap.objs.size (.tup [.int (i : Nat), x])) { s with heap := h'', toks := tk + 1 } :=
      I.turnedNew (ch := [e, it]) (fun b ob hb q => (sb.2 b (fun z => hb (by simp [z]))).trans (hk b ob (fun z => hb (by simp [z])) (fun z => hb (by simp [z])) q)) hf (Nat.le_refl _) new
    refine ⟨.ref s.heap.objs.size, _, I1, rfl, ⟨_, x, rfl, I.hok.fresh (Nat.le_refl _), rfl, fun ys hy => by rw [I.tuple_inj hy hq]; exact hx⟩, ⟨⟨v, ?_⟩, hst.1.at fun o q => (sb.2 it (Ne.symm hne)).trans q, hne, hai, hea⟩, fun b hb => ?_⟩
    · rw [show ((i + 1 : Nat) : Int) = (i : Int) + 1 by omega]
      exact he'
    · have hb' : b < s.heap.objs.size := by
        rcases List.mem_cons.mp hb with z | z
        · rw [z]; exact hel
        · rw [List.mem_singleton.mp z]; exact hil
      rw [upd_ne (Nat.ne_of_lt hb')]
      exact (hf b hb).1
  done := by
    intro X hP hw hK hc i pins s σ H E I hf st hg
    subst hP hw hK
    obtain ⟨⟨old, he⟩, hit, hne, hai, hea⟩ := st
    obtain ⟨xs, hq, hx⟩ := hg
    obtain ⟨its, rv, p, hz⟩ := I.tuple hq
    obtain ⟨f0, f1, f2, f3, f4, f5⟩ := hf it (by simp)
    have hl := rv.length
    have hT : s.TypeIs (.ref e) "enumerate" := ⟨_, he, rfl⟩
    unfold pyNext
    refine wpAny_bind (wpAny_attempt (wpAny_callSpecial?_slot (name := Str.ofString "__next__") hT F.slot_enumerate_next (wpAny_call_entry F.slot_enumerate_next hT F.entry_enumerate_next ?_ (F.args_enumerate_next_1 _))))
    show wpAny _ _ (field (.ref e) 2 >>= _) _ _ _
    refine wpAny_bind (wpAny_field he rfl (x := .ref it) rfl ?_)
    refine wpAny_bind (wpAny_nextOf_tuple_end (I.ok.hd hc) hit p (by simp; omega) fun h' v he' hx' => ?_)
    obtain ⟨o, ho, hcl⟩ := hx'
    refine wpAny_bind (wpAny_isInstance (T := "StopIteration") (b := true) ⟨o, ho, hcl⟩ isSubtype_stop ?_)
    exact wpAny_pure ⟨rfl, I.turned (t' := s.toks) (fun b o hb q => he' b o hb q) f0 f1 f3 f4 f5⟩
  self := fun A i s Q E st h => let ⟨⟨_, he⟩, _⟩ := st; wpAny_pyIter_enum he h
def iEnumT (K : PySem.W.Frag) (ta : TA) : TI := fun σ H R => ta σ H fun vs H1 => ∃ a xs, vs = [.ref a] ∧ SqT K H1 a xs ∧ R (NlIte K a) H1
theorem pi_enumT {X : Cx} {e : Expr} {ta : TA} {p pos tpos : Pos} {elts : List Expr} {kk : Nat} (hg : Gl X "enumerate") (hm : X.mg "enumerate" = none) (ha : PA X [e] ta) (hs : starEach [e] X.env = [(false, eval e X.env)] := by rfl) :
    PI X (.Tuple elts kk tpos) (.Call (.Name "enumerate" p) [e] [] pos) (iEnumT X.K ta) := by
  refine ⟨fun pins s σ H R I h => ?_⟩
  refine Call_ (ld_blt I hg hm boot_enumerate (PyProof.Rows.callWith_type1 (thn (ha.run pos pins s σ H _ I h) fun us s1 ⟨vs, H1, I1, r1, q1⟩ => ?_) hs rfl))
  obtain ⟨a, xs, ex, hq, q⟩ := q1
  subst ex
  cases r1 with
  | cons r rr =>
    cases rr
    cases r
    obtain ⟨its, rv, p', hz⟩ := I1.tuple hq
    have hal : a < s1.heap.objs.size := p'.lt
    refine nl_enum_tuple p' fun h' he hit hk => wpAny_pyIter_enum he ?_
    have I2 : Inv X pins σ H1 { s1 with heap := h' } := I1.kept (t' := s1.toks) hk
    refine ⟨s1.heap.objs.size + 1, [s1.heap.objs.size + 1, s1.heap.objs.size], _, _, H1, rfl, I2, nl_turn_enum a (s1.heap.objs.size + 1) s1.heap.objs.size,
      ⟨⟨.none, he⟩, hit, Nat.succ_ne_self _, Nat.ne_of_lt hal, Nat.ne_of_gt (Nat.lt_succ_of_lt hal)⟩, fun b hb => ?_, q⟩
    have hle : s1.heap.objs.size ≤ b := by
      rcases List.mem_cons.mp hb with z | z
      · rw [z]; exact Nat.le_add_right _ _
      · rw [List.mem_singleton.mp z]; exact Nat.le_refl _
    exact I1.fpOk hle (I1.hok.fresh hle)
theorem walk_enumT {K : PySem.W.Frag} {a : Addr} {xs : List V} : Walk (NlIte K a) xs.length (fun H => SqT K H a xs) (YPair (fun i => some (.int (i : Nat))) (fun i => xs[i]?)) := by
  refine ⟨fun i _ hi q => ⟨xs, xs[i], q, by simp [hi]⟩, fun _ q => ⟨xs, q, Nat.le_refl _⟩, fun i H v H' _ q y => ?_⟩
  obtain ⟨T, x, h1, h2, h3, h4⟩ := y
  exact ⟨T, .int (i : Nat), x, h1, h2, h3, rfl, h4 xs q⟩
/-! ### sum of a tuple of ints -/
def rSumT (K : PySem.W.Frag) : List V → Hp → VK → Prop := fun vs H Q => ∃ (a : Addr) (ns : List Int), vs = [V.ref a] ∧ SqT K H a (ns.map V.int) ∧ Q (.int ns.sum) H
theorem cr_sumT {X : Cx} (hc : X.calm = true) : CallR X (.builtin "sum") (rSumT X.K) := by
  intro pins s σ H vs us Q I r h
  obtain ⟨a, ns, rfl, hs, q⟩ := h
  obtain ⟨its, rv, ht, _⟩ := I.tuple hs
  rw [Vals.ref1 r]
  have hi := rv.ints
  have hal : a < s.heap.objs.size := ht.lt
  obtain ⟨xs, e⟩ := hi.allInts.items
  have hn : numsOf (intItems xs).toList = ns := by rw [← e]; exact hi.numsOf
  rw [nums_intItems] at hn
  have ht2 : s.heap.IsTuple a (intItems xs) := by rw [← e]; exact ht
  have hne : a ≠ s.heap.objs.size := Nat.ne_of_lt hal
  refine call_sum_walkG (wpAny_pyIter_tuple ht2 ?_)
  refine ⟨_, _, _, _, _, _, numAt xs, rfl, Walks.tuple (A := X.A.in1) (I.ok.hd hc) s.heap.objs.size a hne (intItems xs), ⟨⟨_, Heap.get?_push_size _ rfl, rfl, rfl⟩, ht2.at fun o q => Heap.get?_push_of_some _ q⟩, fun b hb => ?_, (fun _ _ => intItems_at), fun h' tk t' hk => ?_⟩
  · show b < (s.heap.push _).objs.size
    rw [Heap.size_push]
    rcases List.mem_cons.mp hb with z | z
    · rw [z]; exact Nat.lt_succ_self _
    · rw [List.mem_singleton.mp z]; exact Nat.lt_succ_of_lt hal
  · have hk2 : ∀ b o, s.heap.get? b = some o → h'.get? b = some o := fun b o q => hk b o (by simp; exact Nat.ne_of_lt (Heap.lt_size q)) (Heap.get?_push_of_some _ q)
    have es : preSum (numAt xs) (intItems xs).size = ns.sum := by
      rw [show (intItems xs).size = xs.size by simp [intItems], preSum_eq, List.take_of_length_le (by simp), hn]
    rw [es]
    exact ⟨.int _, H, I.kept hk2, ⟨_, rfl⟩, q⟩
end L2
set_option maxHeartbeats 4000000
namespace PySem
open Sem (wp)
section
variable {prog : Program} {w : World} {A : Around} {E : Value → Shared → Prop} {R : Result → Shared → Prop} {I : Addr} {fp wr : List Addr} {n : Nat} {St : Nat → Heap → Prop} {val : Nat → Int} {dv : Value}
abbrev nlKw (dv : Value) : List (Str × Value) := [(Str.ofString "default", dv)]
/-- the loop of max(.., default = dv) behind the first item: i the place of the best one so far -/
theorem nl_max_loop (W : Walks prog w A.in1 I fp wr n (fun i v => ∃ t, v = .int (val i) t) St) (S : Addr) (hSf : S ∉ fp) :
    ∀ (k j i : Nat) (s : Shared) (t : Tok) (c : Nat), n - (j + 1) = k → j + 1 ≤ n → i ≤ j → (∀ m, m ≤ j → val m ≤ val i) → St (j + 1) s.heap →
    s.heap.get? S = some { cls := .type "list", dict := none, data := .seq #[.int (val i) t, .int (val i) t] c, slots := #[] } →
    (∀ i t h' tk, i < n → (∀ m, m < n → val m ≤ val i) → (∀ b o, b ∉ wr → b ≠ S → s.heap.get? b = some o → h'.get? b = some o) → R (.ok (.ret (.int (val i) t))) { s with heap := h', toks := tk }) →
    codeAny (model prog w) A (.builtin "max.loop" ⟨[.ref I, .none, .ref S], nlKw dv⟩) R s := by
  have hSw : S ∉ wr := fun h => hSf (W.sub _ h)
  have hname : (toString "max" ++ toString ".loop" : String) = "max.loop" := by decide
  intro k
  induction k with
  | zero =>
    intro j i s t c hk hj hi hle hst hS hR
    have hin : j + 1 = n := by omega
    refine codeAny_builtin F.entry_max_loop ?_
    rw [Around.under_plainId F.plain_max_loop _]
    show wpAny _ A.in1 (seqItems? (.ref S) >>= _) _ _ s
    refine wpAny_bind (wpAny_seqItems hS rfl ?_)
    show wpAny _ A.in1 (tryCatch (pyNext (.ref I)) _ >>= _) _ _ s
    refine wpAny_bind (wpAny_tryCatch (W.done s _ _ (hin ▸ hst) fun h' tk hk' => ?_))
    have hS' := hk' S _ hSw hS
    show wpAny _ A.in1 (updateSeq S (fun _ => #[]) >>= _) _ _ _
    refine wpAny_bind (wpAny_updateSeq hS' rfl (wpAny_bind (wpAny_letGo (wpAny_pure ?_))))
    exact hR i t _ tk (by omega) (fun m hm => hle m (by omega)) fun b o hbw hbS e => (Heap.get?_update_other _ _ (Ne.symm hbS)).trans (hk' b o hbw e)
  | succ k ih =>
    intro j i s t c hk hj hi hle hst hS hR
    have hlt : j + 1 < n := by omega
    refine codeAny_builtin F.entry_max_loop ?_
    rw [Around.under_plainId F.plain_max_loop _]
    show wpAny _ A.in1 (seqItems? (.ref S) >>= _) _ _ s
    refine wpAny_bind (wpAny_seqItems hS rfl ?_)
    show wpAny _ A.in1 (tryCatch (pyNext (.ref I)) _ >>= _) _ _ s
    refine wpAny_bind (wpAny_tryCatch (W.item (j + 1) s _ _ hlt hst fun v h' tk hP hst' hk' => ?_))
    obtain ⟨t2, rfl⟩ := hP
    have hS' := hk' S _ hSw hS
    show wpAny _ A.in1 (tryCatch (holding [.int (val (j + 1)) t2, .int (val (j + 1)) t2] (richCompare .Gt (.int (val (j + 1)) t2) (.int (val i) t) >>= _)) _ >>= _) _ _ _
    have cmp := CmpOf.ints_gt (prog := prog) (w := w) (A := A.in1) (P := fun i v => ∃ t, v = Value.int (val i) t) val (fun _ _ h => h)
    refine wpAny_bind (wpAny_tryCatch (wpAny_holding (wpAny_bind (cmp (j + 1) i _ _ _ _ _ ⟨t2, rfl⟩ ⟨t, rfl⟩ ?_))))
    refine wpAny_bind (wpAny_holding (wpAny_truthy_bool ?_))
    refine wpAny_bind (wpAny_letGo (wpAny_pure ?_))
    by_cases hb : val (j + 1) > val i
    · simp only [hb, decide_true, if_true]
      refine wpAny_bind (wpAny_updateSeq hS' rfl (wpAny_bind (wpAny_letGo ?_)))
      rw [hname]
      refine wpAny_pure ⟨plainId_quiet F.plain_max_loop _, ih (j + 1) (j + 1) _ t2 _ (by omega) hlt (Nat.le_refl _) (fun m hm => ?_) (W.frame _ _ _ hst' fun b hbf o e => ?_) (Heap.get?_update_self _ hS' rfl) fun i' t' h'' tk'' hi' hl' hk'' => ?_⟩
      · by_cases hmj : m = j + 1
        · rw [hmj]; exact Int.le_refl _
        · have := hle m (by omega); omega
      · exact (Heap.get?_update_other _ _ (fun h : S = b => hSf (by rw [h]; exact hbf))).trans e
      · exact hR i' t' h'' tk'' hi' hl' fun b o hbw hbS e => hk'' b o hbw hbS ((Heap.get?_update_other _ _ (Ne.symm hbS)).trans (hk' b o hbw e))
    · simp only [hb, decide_false, Bool.false_eq_true, if_false]
      refine wpAny_bind (wpAny_letGo ?_)
      rw [hname]
      refine wpAny_pure ⟨plainId_quiet F.plain_max_loop _, ih (j + 1) i _ t c (by omega) hlt (by omega) (fun m hm => ?_) hst' hS' fun i' t' h'' tk'' hi' hl' hk'' => ?_⟩
      · by_cases hmj : m = j + 1
        · rw [hmj]; omega
        · exact hle m (by omega)
      · exact hR i' t' h'' tk'' hi' hl' fun b o hbw hbS e => hk'' b o hbw hbS (hk' b o hbw e)
/-- the whole loop: dv if there is no item -/
theorem nl_max_all (W : Walks prog w A.in1 I fp wr n (fun i v => ∃ t, v = .int (val i) t) St) (S : Addr) (hSf : S ∉ fp) {s : Shared} {c : Nat} (hst : St 0 s.heap)
    (hS : s.heap.get? S = some { cls := .type "list", dict := none, data := .seq #[] c, slots := #[] })
    (h0 : n = 0 → ∀ h' tk, (∀ b o, b ∉ wr → b ≠ S → s.heap.get? b = some o → h'.get? b = some o) → R (.ok (.ret dv)) { s with heap := h', toks := tk })
    (hR : ∀ i t h' tk, i < n → (∀ m, m < n → val m ≤ val i) → (∀ b o, b ∉ wr → b ≠ S → s.heap.get? b = some o → h'.get? b = some o) → R (.ok (.ret (.int (val i) t))) { s with heap := h', toks := tk }) :
    codeAny (model prog w) A (.builtin "max.loop" ⟨[.ref I, .none, .ref S], nlKw dv⟩) R s := by
  have hSw : S ∉ wr := fun h => hSf (W.sub _ h)
  have hname : (toString "max" ++ toString ".loop" : String) = "max.loop" := by decide
  refine codeAny_builtin F.entry_max_loop ?_
  rw [Around.under_plainId F.plain_max_loop _]
  show wpAny _ A.in1 (seqItems? (.ref S) >>= _) _ _ s
  refine wpAny_bind (wpAny_seqItems hS rfl ?_)
  show wpAny _ A.in1 (tryCatch (pyNext (.ref I)) _ >>= _) _ _ s
  by_cases hn : n = 0
  · refine wpAny_bind (wpAny_tryCatch (W.done s _ _ (hn ▸ hst) fun h' tk hk' => ?_))
    show wpAny _ A.in1 (rule "max.default" >>= _) _ _ _
    refine wpAny_bind (wpAny_rule (wpAny_pure ?_))
    exact h0 hn h' tk fun b o hbw _ e => hk' b o hbw e
  · refine wpAny_bind (wpAny_tryCatch (W.item 0 s _ _ (by omega) hst fun v h' tk hP hst' hk' => ?_))
    obtain ⟨t2, rfl⟩ := hP
    have hS' := hk' S _ hSw hS
    show wpAny _ A.in1 (updateSeq S (fun _ => #[.int (val 0) t2, .int (val 0) t2]) >>= _) _ _ _
    refine wpAny_bind (wpAny_updateSeq hS' rfl ?_)
    rw [hname]
    refine wpAny_pure ⟨plainId_quiet F.plain_max_loop _, nl_max_loop W S hSf _ 0 0 _ t2 _ rfl (by omega) (Nat.le_refl _) (fun m hm => ?_) (W.frame _ _ _ hst' fun b hbf o e => ?_) (Heap.get?_update_self _ hS' rfl) fun i t' h'' tk'' hi' hl' hk'' => ?_⟩
    · rw [Nat.le_zero.mp hm]; exact Int.le_refl _
    · exact (Heap.get?_update_other _ _ (fun h : S = b => hSf (by rw [h]; exact hbf))).trans e
    · exact hR i t' h'' tk'' hi' hl' fun b o hbw hbS e => hk'' b o hbw hbS ((Heap.get?_update_other _ _ (Ne.symm hbS)).trans (hk' b o hbw e))
theorem nl_call_kw {id : String} {b : Builtin} {s : Shared} {args : List Value} {kw : List (Str × Value)} {Q : Value → Shared → Prop} (hk : builtinKind id = none) (hp : plainId id = true) (hb : entryFor table id = some b) (ha : argsOk id ⟨args, kw⟩)
    (hc : wpAny (model prog w) A.in1 (b ⟨args, kw⟩) (fun fin s' => match fin with
      | .done f => (match (Except.ok f : Result) with | .ok (.ret v) => Q v s' | .ok _ => False | .error e => E e s')
      | .again c' => c'.quiet = true ∧ codeAny (model prog w) A c' (fun r s' => match r with | .ok (.ret v) => Q v s' | .ok _ => False | .error e => E e s') s') E s) :
    wpAny (model prog w) A (call (.builtin id) args kw) Q E s := by
  refine wpAny_call (codeAny_call_builtin hp hb ?_)
  simp only [checkBuiltinCall, hk]
  cases hsig : Manifest.signature? id with
  | none => exact wpAny_pure hc
  | some sig =>
    have h2 : Bind.checkArgs id sig ⟨args, kw⟩ = pure () := by simpa only [argsOk, hsig] using ha
    simp only [h2]
    exact wpAny_pure hc
theorem nl_args_maxD (a b : Value) : argsOk "max" ⟨[a], nlKw b⟩ := by unfold argsOk; kernel_rfl
theorem nl_call_max {s : Shared} {l : Addr} {xs : Array (Int × Tok)} {Q : Value → Shared → Prop} (hh : A.handled = none) (hl : s.heap.IsList l (intItems xs))
    (h0 : xs.size = 0 → ∀ h' tk, (∀ b o, s.heap.get? b = some o → h'.get? b = some o) → Q dv { s with heap := h', toks := tk })
    (hR : ∀ i t h' tk, i < xs.size → (∀ m, m < xs.size → numAt xs m ≤ numAt xs i) → (∀ b o, s.heap.get? b = some o → h'.get? b = some o) → Q (.int (numAt xs i) t) { s with heap := h', toks := tk }) :
    wpAny (model prog w) A (call (.builtin "max") [.ref l] (nlKw dv)) Q E s := by
  have hname : (toString "max" ++ toString ".loop" : String) = "max.loop" := by decide
  refine nl_call_kw F.kind_max F.plain_max F.entry_max (nl_args_maxD _ _) ?_
  show wpAny _ A.in1 (Builtin.Builtins.bindParams "max" ["key", "default"] 0 ⟨[], nlKw dv⟩ >>= _) _ _ s
  refine wpAny_bind (wpAny_of_eq (show Builtin.Builtins.bindParams "max" ["key", "default"] 0 ⟨[], nlKw dv⟩ = pure [none, some dv] from rfl) ?_)
  refine wpAny_bind (wpAny_pure ?_)
  refine wpAny_bind (iter_intList hl fun s₂ e st hfp hlI => ?_)
  subst e
  refine wpAny_bind (wpAny_newObj_type ?_)
  rw [hname]
  have W := Walks.list (prog := prog) (w := w) (A := A.in1) hh s.heap.objs.size l hlI (intItems xs)
  have es : (intItems xs).size = xs.size := by simp [intItems]
  have W2 : Walks prog w A.in1 s.heap.objs.size [s.heap.objs.size, l] [s.heap.objs.size] xs.size (fun i v => ∃ t, v = .int (numAt xs i) t) (fun i h => h.IsListIter s.heap.objs.size l i ∧ h.IsList l (intItems xs)) := by
    rw [← es]
    exact ⟨W.sub, W.frame, fun i s Q E hi st hQ => W.item i s Q E hi st fun v h' tk hv => hQ v h' tk (intItems_at hv), W.done, W.self⟩
  have hSf : (s.heap.push { cls := .type "list_iterator", data := .fields #[.ref l, .int 0 0] }).objs.size ∉ [s.heap.objs.size, l] := fun hm => Nat.lt_irrefl _ (hfp _ hm)
  have old : ∀ {h' : Heap} , (∀ b o, b ∉ [s.heap.objs.size] → b ≠ (s.heap.push { cls := .type "list_iterator", data := .fields #[.ref l, .int 0 0] }).objs.size →
      ((s.heap.push { cls := .type "list_iterator", data := .fields #[.ref l, .int 0 0] }).push { cls := .type "list", data := .seq #[] }).get? b = some o → h'.get? b = some o) → ∀ b o, s.heap.get? b = some o → h'.get? b = some o := fun {h'} k b o e => by
    have hb := Heap.lt_size e
    refine k b o (by simp; exact Nat.ne_of_lt hb) (by rw [Heap.size_push]; exact Nat.ne_of_lt (Nat.lt_succ_of_lt hb)) (Heap.get?_push_of_some _ (Heap.get?_push_of_some _ e))
  have k2 : ∀ b o, (s.heap.push { cls := .type "list_iterator", data := .fields #[.ref l, .int 0 0] }).get? b = some o → ((s.heap.push { cls := .type "list_iterator", data := .fields #[.ref l, .int 0 0] }).push { cls := .type "list", data := .seq #[] }).get? b = some o := fun b o e => Heap.get?_push_of_some _ e
  have hS2 : ((s.heap.push { cls := .type "list_iterator", data := .fields #[.ref l, .int 0 0] }).push { cls := .type "list", data := .seq #[] }).get? (s.heap.push { cls := .type "list_iterator", data := .fields #[.ref l, .int 0 0] }).objs.size = some { cls := .type "list", dict := none, data := .seq #[] 0, slots := #[] } := Heap.get?_push_size _ rfl
  refine wpAny_pure ⟨plainId_quiet F.plain_max_loop _, nl_max_all (A := A) (dv := dv) (s := { s with heap := (s.heap.push { cls := .type "list_iterator", data := .fields #[.ref l, .int 0 0] }).push { cls := .type "list", data := .seq #[] } }) W2 _ hSf (W2.frame 0 _ _ st fun b _ o e => k2 b o e) hS2 (fun hn h' tk hk => ?_) fun i t h' tk hi hm hk => ?_⟩
  · exact h0 hn h' tk (old hk)
  · exact hR i t h' tk hi hm (old hk)
end
end PySem
namespace L2
open PySem PySem.Spec PyProof.Rows
/-- the greatest of a list, d if it is empty -/
def rMaxD (K : PySem.W.Frag) : List V → List V → Hp → VK → Prop := fun vs zs H Q => ∃ (a : Addr) (ns : List Int) (d : Int), vs = [V.ref a] ∧ zs = [V.int d] ∧ SqL K H a (ns.map V.int) ∧
  (ns = [] → Q (.int d) H) ∧ ∀ m, m ∈ ns → (∀ y, y ∈ ns → y ≤ m) → Q (.int m) H
theorem cr_maxD {X : Cx} (hc : X.calm = true) : CallRK X (.builtin "max") [Str.ofString "default"] (rMaxD X.K) := by
  intro pins s σ H vs zs us ws Q I r rz h
  obtain ⟨a, ns, d, rfl, rfl, hs, q0, q1⟩ := h
  obtain ⟨its, rv, hl, _⟩ := I.list hs
  rw [Vals.ref1 r]
  cases rz with
  | cons r1 r2 =>
    cases r2
    obtain ⟨td, rfl⟩ := r1
    have hi := rv.ints
    obtain ⟨xs, e⟩ := hi.allInts.items
    have hn : numsOf (intItems xs).toList = ns := by rw [← e]; exact hi.numsOf
    rw [nums_intItems] at hn
    have hl2 := hl.isList
    rw [e] at hl2
    have hmem : ∀ i, i < xs.size → numAt xs i ∈ ns := fun i hi' => by
      rw [← hn, numAt_eq]
      exact PySem.getD_mem (by rw [List.length_map, Array.length_toList]; exact hi')
    refine nl_call_max (I.ok.hd hc) hl2 (fun h0 h' tk hk => ?_) fun i t h' tk hi' hm hk => ?_
    · refine ⟨.int d, H, I.kept hk, ⟨_, rfl⟩, q0 ?_⟩
      rw [← hn]
      have : xs.toList = [] := by rw [← List.length_eq_zero_iff, Array.length_toList]; exact h0
      rw [this]; rfl
    · refine ⟨.int _, H, I.kept hk, ⟨_, rfl⟩, q1 _ (hmem i hi') fun y hy => ?_⟩
      rw [← hn] at hy
      obtain ⟨j, hj, rfl⟩ := mem_getD hy
      rw [List.length_map, Array.length_toList] at hj
      rw [← numAt_eq]
      exact hm j hj
/-! ### a call with keywords where what is raised is wished for at the caller's slots -/
section
variable {X : Cx} {CX : CXT} {k n : Nat} {f : Addr} {fd : FuncData} {ps ks : List Str} {sp : Sp} {E : St → XK} {x : Str} {p pos : Pos} {e : Expr} {es : List Expr} {kws : List Keyword} {t tk : TA} {g : List Value → List Value → List Value} {gV : List V → List V → List V}
def tCallNS (n m : Nat) (sp : Sp) (gV : List V → List V → List V) (E : St → XK) (t tk : TA) : TE := fun σ H Q => t σ H fun vs H1 => tk σ H1 fun zs H2 => vs.length = n ∧ zs.length = m ∧ sp (gV vs zs) H2 Q (E σ)
theorem pe_callNS (F : FnOk X.prog X.w X.K X.mg X.base CX k f fd ps sp) (hr : Room k X.A) (hg : Gl X x) (hm : X.mg x = some (.ref f)) (hk : PySem.W.keepIn X.K (.ref f) = true) (hb : KBn X.K fd ps n ks g gV) (hx : ∀ σ, PassesAt CX X σ (E σ))
    (ha : PA X (e :: es) t) (hkw : PK X kws tk) (hall : (backToKw pos (keywordEach kws X.env)).all (·.1.isSome) = true := by rfl) (hks : (backToKw pos (keywordEach kws X.env)).filterMap (·.1) = ks := by rfl)
    (hdb : (x == ("__debug__" : Str)) = false := by decide) (he : starEach (e :: es) X.env = (false, eval e X.env) :: starEach es X.env := by rfl)
    (hpl : ((backTo pos (starEach (e :: es) X.env)).any (·.1) || (backToKw pos (keywordEach kws X.env)).any (·.1.isNone)) = false := by rfl) :
    PE X (.Call (.Name x p) (e :: es) kws pos) (tCallNS n ks.length sp gV E t tk) := by
  refine ⟨fun pins s σ H Q I h => ?_⟩
  refine wpAny_Call_Name_kw (ld_glob I hg hm ?_ hdb)
  refine PySem.W.callWith_KW (h₀ := X.base) I.ok.mod.kin hk hall (thn (ha.run pos pins s σ H _ I h) fun us s1 ⟨vs, H1, I1, r, q⟩ => ?_) hpl he
  refine thn (hkw.run pos pins s1 σ H1 _ I1 q) fun ws s2 ⟨zs, H2, I2, rz, l1, l2, q2⟩ => ⟨I2.kIn, ?_⟩
  rw [hks]
  have r2 := hb.rel r rz
  refine wpAny_call (codeAny_mono (F.run X.A X.stack s2 H2 ⟨us, ks.zip ws⟩ (g us ws) (gV vs zs) Q (E σ) hr I2.env0 (hb.to s2 us ws I2.kIn (r.length.symm.trans l1) (rz.length.symm.trans l2)) r2 q2) fun r s' hq => ?_)
  cases r with
  | error er => exact hx σ pins H2 s2 er s' I2 hq
  | ok fl =>
    cases fl with
    | ret u => exact I2.after hq
    | next => exact False.elim hq
    | brk => exact False.elim hq
    | cont => exact False.elim hq
end
end L2
set_option maxHeartbeats 4000000
/-! ### the text by places -/
namespace Nl
open PySem PySem.Spec PyProof.Rows L2
def topS (i : Nat) : Stmt := PySem.Challenge.pw_neverlate_k69_whole_cores_cover.main.body.getD i (.Pass ⟨0, 0, 0, 0⟩)
abbrev sWall : Stmt := topS 1
abbrev sUnknownNameInit : Stmt := inClass (topS 8) 0
abbrev sUnknownNumberInit : Stmt := inClass (topS 9) 0
abbrev sUndecidedInit : Stmt := inClass (topS 10) 0
abbrev sRows : Stmt := topS 12
abbrev sOwnWork : Stmt := topS 13
abbrev sBestContinuation : Stmt := topS 14
abbrev sDemands : Stmt := topS 15
abbrev sSystemDemands : Stmt := topS 16
abbrev sHeaviest : Stmt := topS 17
abbrev sBestStep : Stmt := topS 18
abbrev sMakeRatio : Stmt := topS 20
abbrev sCompareRatios : Stmt := topS 21
abbrev sCircuits : Stmt := topS 23
abbrev sExtendPath : Stmt := topS 24
abbrev sCircuitMean : Stmt := topS 25
abbrev sBestCircuit : Stmt := topS 26
abbrev sShare : Stmt := topS 27
abbrev sSupplyOfFirst : Stmt := topS 29
abbrev sSupply : Stmt := topS 30
abbrev sWayWeight : Stmt := topS 32
abbrev sWeights : Stmt := topS 33
abbrev sImprove : Stmt := topS 34
abbrev sLinearBound : Stmt := topS 35
abbrev sSystemBound : Stmt := topS 37
abbrev sDecisiveHorizon : Stmt := topS 38
abbrev sShift : Stmt := topS 40
abbrev sGreatestDeadline : Stmt := topS 42
abbrev sGreatestDistance : Stmt := topS 43
abbrev sRowGrowth : Stmt := topS 44
abbrev sComeRound : Stmt := topS 45
abbrev sRounds : Stmt := topS 46
abbrev sMissInit : Stmt := inClass (topS 48) 0
abbrev sFirstOverfull : Stmt := topS 49
abbrev sIsDecided : Stmt := topS 50
abbrev sFirstMiss : Stmt := topS 51
abbrev sIsName : Stmt := topS 63
abbrev sAreKinds : Stmt := topS 64
abbrev sAreWays : Stmt := topS 65
abbrev sIsTable : Stmt := topS 66
abbrev sTaskInit : Stmt := inClass (topS 67) 0
abbrev sTaskLongestDistance : Stmt := inClass (topS 67) 1
abbrev sTaskLatestDeadline : Stmt := inClass (topS 67) 2
abbrev sTaskKindNumber : Stmt := inClass (topS 67) 3
abbrev sTaskCost : Stmt := inClass (topS 67) 4
abbrev sTaskDeadline : Stmt := inClass (topS 67) 5
abbrev sTaskWaysFrom : Stmt := inClass (topS 67) 6
abbrev sSystemInit : Stmt := inClass (topS 68) 0
abbrev sSystemTaskNumber : Stmt := inClass (topS 68) 1
abbrev sSystemWithTask : Stmt := inClass (topS 68) 2
abbrev sSystemWithTable : Stmt := inClass (topS 68) 3
abbrev sSystemOnly : Stmt := inClass (topS 68) 4
abbrev sTrial : Stmt := topS 70
abbrev sCanLive : Stmt := topS 72
abbrev sSetsOf : Stmt := topS 73
abbrev sContains : Stmt := topS 74
abbrev sHasPart : Stmt := topS 75
abbrev sCores : Stmt := topS 76
abbrev sLawRow : Stmt := topS 78
abbrev sLawNumbers : Stmt := topS 79
abbrev sLawName : Stmt := topS 80
abbrev sLawTable : Stmt := topS 81
abbrev sLawKinds : Stmt := topS 82
abbrev sLawWays : Stmt := topS 83
abbrev sLawSpecs : Stmt := topS 84
abbrev sLawSystem : Stmt := topS 85
abbrev sLawFilled : Stmt := topS 86
abbrev sLawSets : Stmt := topS 87
abbrev sLawContains : Stmt := topS 88
abbrev sLaw : Stmt := topS 89
/-! ### what the walk asks of the top -/
/-- a def of the module -/
structure FG (K : PySem.W.Frag) (mg : Str → Option Value) (ad : Str → Addr) (fd : Str → FuncData) (x : Str) (st : Stmt) : Prop where
  fn : Fun K x x st (ad x) (fd x)
  gl : mg x = some (.ref (ad x))
/-- a method of the class -/
structure FM (K : PySem.W.Frag) (ad : Str → Addr) (fd : Str → FuncData) (C m qual : Str) (st : Stmt) : Prop where
  fn : Fun K m qual st (ad qual) (fd qual)
  me : Meth K (ad C) m (ad qual)
/-- a class with its __init__ -/
structure FC (K : PySem.W.Frag) (mg : Str → Option Value) (ad : Str → Addr) (fd : Str → FuncData) (C qual : Str) (st : Stmt) : Prop where
  gl : mg C = some (.ref (ad C))
  cl : Cls K (ad C)
  mkr : Mk K (ad C) (ad qual)
  fn : Fun K "__init__" qual st (ad qual) (fd qual)
structure Tx (K : PySem.W.Frag) (mg : Str → Option Value) (ad : Str → Addr) (fd : Str → FuncData) : Prop where
  rows : FG K mg ad fd "rows" sRows
  ownWork : FG K mg ad fd "own_work" sOwnWork
  bestContinuation : FG K mg ad fd "best_continuation" sBestContinuation
  demands : FG K mg ad fd "demands" sDemands
  systemDemands : FG K mg ad fd "system_demands" sSystemDemands
  heaviest : FG K mg ad fd "heaviest" sHeaviest
  bestStep : FG K mg ad fd "best_step" sBestStep
  makeRatio : FG K mg ad fd "make_ratio" sMakeRatio
  compareRatios : FG K mg ad fd "compare_ratios" sCompareRatios
  circuits : FG K mg ad fd "circuits" sCircuits
  extendPath : FG K mg ad fd "extend_path" sExtendPath
  circuitMean : FG K mg ad fd "circuit_mean" sCircuitMean
  bestCircuit : FG K mg ad fd "best_circuit" sBestCircuit
  share : FG K mg ad fd "share" sShare
  supplyOfFirst : FG K mg ad fd "supply_of_first" sSupplyOfFirst
  supply : FG K mg ad fd "supply" sSupply
  wayWeight : FG K mg ad fd "way_weight" sWayWeight
  weights : FG K mg ad fd "weights" sWeights
  improve : FG K mg ad fd "improve" sImprove
  linearBound : FG K mg ad fd "linear_bound" sLinearBound
  systemBound : FG K mg ad fd "system_bound" sSystemBound
  decisiveHorizon : FG K mg ad fd "decisive_horizon" sDecisiveHorizon
  shift : FG K mg ad fd "shift" sShift
  greatestDeadline : FG K mg ad fd "greatest_deadline" sGreatestDeadline
  greatestDistance : FG K mg ad fd "greatest_distance" sGreatestDistance
  rowGrowth : FG K mg ad fd "row_growth" sRowGrowth
  comeRound : FG K mg ad fd "come_round" sComeRound
  rounds : FG K mg ad fd "rounds" sRounds
  missInit : FC K mg ad fd "Miss" "Miss.__init__" sMissInit
  firstOverfull : FG K mg ad fd "first_overfull" sFirstOverfull
  isDecided : FG K mg ad fd "is_decided" sIsDecided
  firstMiss : FG K mg ad fd "first_miss" sFirstMiss
  isName : FG K mg ad fd "is_name" sIsName
  areKinds : FG K mg ad fd "are_kinds" sAreKinds
  areWays : FG K mg ad fd "are_ways" sAreWays
  isTable : FG K mg ad fd "is_table" sIsTable
  taskInit : FC K mg ad fd "Task" "Task.__init__" sTaskInit
  taskKindNumber : FM K ad fd "Task" "kind_number" "Task.kind_number" sTaskKindNumber
  taskCost : FM K ad fd "Task" "cost" "Task.cost" sTaskCost
  taskWaysFrom : FM K ad fd "Task" "ways_from" "Task.ways_from" sTaskWaysFrom
  systemInit : FC K mg ad fd "System" "System.__init__" sSystemInit
  systemOnly : FM K ad fd "System" "only" "System.only" sSystemOnly
  trial : FG K mg ad fd "trial" sTrial
  canLive : FG K mg ad fd "can_live" sCanLive
  setsOf : FG K mg ad fd "sets_of" sSetsOf
  contains : FG K mg ad fd "contains" sContains
  hasPart : FG K mg ad fd "has_part" sHasPart
  cores : FG K mg ad fd "cores" sCores
  lawRow : FG K mg ad fd "_law_row" sLawRow
  lawNumbers : FG K mg ad fd "_law_numbers" sLawNumbers
  lawName : FG K mg ad fd "_law_name" sLawName
  lawTable : FG K mg ad fd "_law_table" sLawTable
  lawKinds : FG K mg ad fd "_law_kinds" sLawKinds
  lawWays : FG K mg ad fd "_law_ways" sLawWays
  lawSpecs : FG K mg ad fd "_law_specs" sLawSpecs
  lawSystem : FG K mg ad fd "_law_system" sLawSystem
  lawFilled : FG K mg ad fd "_law_filled" sLawFilled
  lawSets : FG K mg ad fd "_law_sets" sLawSets
  lawContains : FG K mg ad fd "_law_contains" sLawContains
  law : FG K mg ad fd "law" sLaw
  b_len : mg "len" = none
  b_max : mg "max" = none
  b_min : mg "min" = none
  b_range : mg "range" = none
  b_enumerate : mg "enumerate" = none
  b_sum : mg "sum" = none
  b_abs : mg "abs" = none
  b_int : mg "int" = none
  b_str : mg "str" = none
  b_list : mg "list" = none
  b_tuple : mg "tuple" = none
  b_all : mg "all" = none
  b_divmod : mg "divmod" = none
  b_super : mg "super" = none
  nTask_name : NoAttr K (ad "Task") "name"
  nTask_kinds : NoAttr K (ad "Task") "kinds"
  nTask_ways : NoAttr K (ad "Task") "ways"
  nSystem_tasks : NoAttr K (ad "System") "tasks"
  nSystem_table : NoAttr K (ad "System") "table"
  nMiss_instant : NoAttr K (ad "Miss") "instant"
  nMiss_start : NoAttr K (ad "Miss") "start"
  nMiss_releases : NoAttr K (ad "Miss") "releases"
  c_MOST_NAME_CHARS : ∃ t, mg "MOST_NAME_CHARS" = some (.int 12 t)
  c_MOST_KINDS : ∃ t, mg "MOST_KINDS" = some (.int 8 t)
  c_MOST_WAYS : ∃ t, mg "MOST_WAYS" = some (.int 16 t)
  c_MOST_COST : ∃ t, mg "MOST_COST" = some (.int 1000 t)
  c_MOST_DEADLINE : ∃ t, mg "MOST_DEADLINE" = some (.int 1000 t)
  c_MOST_DISTANCE : ∃ t, mg "MOST_DISTANCE" = some (.int 1000 t)
  c_MOST_TASKS : ∃ t, mg "MOST_TASKS" = some (.int 6 t)
  c_MOST_SLOTS : ∃ t, mg "MOST_SLOTS" = some (.int 1001 t)
  c_MOST_CAPACITY : ∃ t, mg "MOST_CAPACITY" = some (.int 1000000 t)
  c_NAME_CHARS : ∃ t, mg "NAME_CHARS" = some (.str "abcdefghijklmnopqrstuvwxyz0123456789" t)
  gcd : mg "gcd" = some (.builtin "math.gcd")
  pDist : PropOf K (ad "Task") "longest_distance" (ad "p.longest_distance") (ad "Task.longest_distance")
  fDist : Fun K "longest_distance" "Task.longest_distance" sTaskLongestDistance (ad "Task.longest_distance") (fd "Task.longest_distance")
  pDead : PropOf K (ad "Task") "latest_deadline" (ad "p.latest_deadline") (ad "Task.latest_deadline")
  fDead : Fun K "latest_deadline" "Task.latest_deadline" sTaskLatestDeadline (ad "Task.latest_deadline") (fd "Task.latest_deadline")

/-- how positional and keyword values bind, the keywords in the parameters' order -/
theorem kbn_of {K : PySem.W.Frag} {x qual : Str} {st : Stmt} {f : Addr} {fd : FuncData} {ps ks : List Str} (F : Fun K x qual st f fd) (n : Nat)
    (h : ∀ (kV doc pm : Value) (an : Option Addr) (cdv ct : Value) (us ws : List Value), us.length = n → ws.length = ks.length →
      bindArgs (PySem.W.fnOf x qual (defArgs st) (defBody st) (defScope st) .none kV doc pm an cdv ct) ⟨us, ks.zip ws⟩ = pure (ps.zip (us ++ ws))) : KBn K fd ps n ks (fun us ws => us ++ ws) (fun vs zs => vs ++ zs) := by
  obtain ⟨oc, od, kV, doc, pm, an, cdv, ct, osl, rfl, lk, hcd⟩ := F.ex
  exact ⟨fun s us ws _ h1 h2 => BindsTo.of_eq (h kV doc pm an cdv ct us ws h1 h2), fun r1 r2 => r1.append r2⟩
theorem Fun.okC {CX : CXT} {P : Program} {w : World} {K : PySem.W.Frag} {mg : Str → Option Value} {base : Heap} {x qual : Str} {st : Stmt} {f : Addr} {fd : FuncData} {N ps : List Str} {k : Nat} {sp : Sp} (F : Fun K x qual st f fd) (S : FnScope N ps (defScope st)) (len : ∀ vs H Q E, sp vs H Q E → vs.length = ps.length)
    (hbody : ∀ (cdv : Value) (A : Around) (outer : List Env) (s : Shared) (H : Hp) (vs : List V) (Q : VK) (E : XK), Room k (A.deeper (envOfC qual (defScope st) s.heap.objs.size f cdv)) → sp vs H Q E →
      ∃ t, PSs (cxOf CX P w K mg base N qual (defScope st) f cdv A outer s H E).nox (defBody st) t ∧ t { nx := fun _ H' => Q .non H', rt := Q } (start N vs) H) : FnOk P w K mg base CX (k + 1) f fd ps sp := by
  obtain ⟨oc, od, kV, doc, pm, an, cdv, ct, osl, rfl, lk, hcd⟩ := F.ex
  refine fn_of lk hcd S len fun A outer s H vs Q E hr hsp => ?_
  obtain ⟨t, h, q⟩ := hbody cdv A outer s H vs Q E hr hsp
  exact ⟨t, h.nox, q⟩
end Nl
set_option maxHeartbeats 0
namespace NlH
open PySem PySem.Spec PyProof.Rows L2 Nl
/-- a def of the text: where it stands, its name, its qualified name, its statement; clo: closed over __class__ of this class -/
structure DefN where
  adr : PySem.W.Frag → Addr
  name : Str
  qual : Str
  st : Stmt
  clo : Option Str := none
def gAd (x : Str) (K : PySem.W.Frag) : Addr := He.ga K x
def mAd (C m : Str) (K : PySem.W.Frag) : Addr := He.ma K (He.ga K C) m
/-- a property's getter -/
def pAd (C m : Str) (K : PySem.W.Frag) : Addr := match PySem.W.recIn K (He.ma K (He.ga K C) m) "property" with
  | some (.ref g :: _) => g
  | _ => 0
abbrev FnN : Type := Option (Str × Str × Arguments × FuncBody × Scope × Addr × Addr)
def fnN (K : PySem.W.Frag) (a : Addr) : FnN := match K.lookup a with
  | some ⟨_, _, .func fd, _⟩ => some (fd.name, fd.qualname, fd.params, fd.body, fd.scope, fd.globals, fd.builtins)
  | _ => none
def DefN.val (d : DefN) : FnN := some (d.name, d.qual, defArgs d.st, .stmts (defBody d.st), defScope d.st, mainGlobals, builtinsNs)
def cloB (K : PySem.W.Frag) (cl : List (Str × Addr)) : Option Str → Bool
  | none => cl.isEmpty
  | some C => (match cl with
    | [(x, c)] => decide (x = ("__class__" : Str)) && (match K.lookup c with
      | some ⟨_, _, .cell (some (.ref D)), _⟩ => decide (D = He.ga K C)
      | _ => false)
    | _ => false)
def DefN.ok (K : PySem.W.Frag) (d : DefN) : Bool := PySem.W.keepIn K (.ref (d.adr K)) && (match K.lookup (d.adr K) with
  | some ⟨_, _, .func fd, _⟩ => PySem.W.codeIn K fd.code d.qual && (decide (fd.defaults = .none) && cloB K fd.closure d.clo)
  | _ => false)
abbrev AlN : Type := Bool × List FnN
def obsN (ex : PySem.W.Frag → Bool) (fn : List DefN) (K : PySem.W.Frag) : AlN := (ex K && fn.all fun d => d.ok K, fn.map fun d => fnN K (d.adr K))
def valN (fn : List DefN) : AlN := (true, fn.map DefN.val)
def SaysN (ex : PySem.W.Frag → Bool) (fn : List DefN) (K : PySem.W.Frag) : Prop := obsN ex fn K = valN fn
/-! ### what the names reach in n steps, and the interpreter's statics: the set of those seen is one number, its bits -/
section
variable {α : Type}
def pushA : List Addr → Nat → List Addr → (Nat → List Addr → α) → α
  | [], m, acc, k => k m acc
  | a :: r, m, acc, k => HandSHeadRun.frNat a fun a => match Nat.beq (Nat.land (Nat.shiftRight m a) 1) 0 with
    | false => pushA r m acc k
    | true => HandSHeadRun.frNat (Nat.lor m (Nat.shiftLeft 1 a)) fun m => pushA r m (a :: acc) k
def lvlA (g : Addr → Option Obj) : List Addr → Nat → List Addr → (Nat → List Addr → α) → α
  | [], m, acc, k => k m acc
  | a :: r, m, acc, k => match g a with
    | some o => pushA (He.refsD o) m acc fun m acc => lvlA g r m acc k
    | none => lvlA g r m acc k
end
def bfsA (g : Addr → Option Obj) : Nat → List Addr → Nat → List Addr
  | 0, fr, _ => fr
  | n + 1, fr, m => fr ++ lvlA g fr m [] fun m new => bfsA g n new m
def asS (g : Addr → Option Obj) (n : Nat) : List Addr := HandSHeadRun.frNat (Nat.shiftLeft 1 mainGlobals) fun m => bfsA g n [mainGlobals] m ++ [cStatics]
def obsNG (n : Nat) (ex : PySem.W.Frag → Bool) (fn : List DefN) (g : Addr → Option Obj) : AlN := obsN ex fn (He.frG g (asS g n))
def hookN (n : Nat) (ex : PySem.W.Frag → Bool) (fn : List DefN) : PySem.W.Hook where
  α := AlN
  obs := fun s => obsNG n ex fn s.heap.get?
  val := fun _ => valN fn
  says := fun _ h => ∃ K : PySem.W.Frag, K.In h ∧ SaysN ex fn K
  of := fun _ _ e => ⟨_, He.frG_in, e⟩
  keeps := fun _ _ _ ⟨K, hK, c⟩ k => ⟨K, PySem.W.Frag.In.keeps hK k, c⟩
theorem obsNG_eq {n : Nat} {ex : PySem.W.Frag → Bool} {fn : List DefN} {g : Addr → Option Obj} {s : Shared} (h : ∀ a, g a = s.heap.get? a) : obsNG n ex fn g = (hookN n ex fn).obs s := by
  have e : g = s.heap.get? := funext h
  rw [e] <;> rfl
section
variable {ex : PySem.W.Frag → Bool} {fn : List DefN} {K : PySem.W.Frag}
theorem SaysN.has (c : SaysN ex fn K) : ex K = true := (He.ba (show (ex K && fn.all fun d => d.ok K) = true from congrArg (fun z : AlN => z.1) c)).1
theorem SaysN.all (c : SaysN ex fn K) {d : DefN} (h : d ∈ fn) : d.ok K = true ∧ fnN K (d.adr K) = d.val := by
  have c2 := (He.ba (show (ex K && fn.all fun d => d.ok K) = true from congrArg (fun z : AlN => z.1) c)).2
  have e : fn.map (fun d => fnN K (d.adr K)) = fn.map DefN.val := congrArg (fun z : AlN => z.2) c
  obtain ⟨i, hi, ei⟩ := List.mem_iff_getElem.mp h
  have h' : fn[i]? = some d := by rw [List.getElem?_eq_getElem hi, ei]
  have e2 : (fn.map fun d => fnN K (d.adr K))[i]? = (fn.map DefN.val)[i]? := by rw [e]
  rw [List.getElem?_map, List.getElem?_map, h'] at e2
  exact ⟨List.all_eq_true.mp c2 d h, Option.some.inj e2⟩
/-- what is known of such a def's object -/
theorem DefN.raw {d : DefN} (c : d.ok K = true) (e : fnN K (d.adr K) = d.val) : ∃ (oc : Value) (od : Option Addr) (kV doc pm : Value) (an : Option Addr) (cdv ct : Value) (cl : List (Str × Addr)) (osl : Array (Option Value)),
    K.lookup (d.adr K) = some ⟨oc, od, .func (PySem.W.fnX d.name d.qual (defArgs d.st) (defBody d.st) (defScope d.st) cl .none kV doc pm an cdv ct), osl⟩ ∧ PySem.W.codeIn K cdv d.qual = true ∧ cloB K cl d.clo = true ∧ PySem.W.keepIn K (.ref (d.adr K)) = true := by
  obtain ⟨kp, c2⟩ := He.ba c
  unfold fnN at e
  cases q : K.lookup (d.adr K) with
  | none =>
    rw [q] at c2
    cases c2
  | some o =>
    obtain ⟨oc, od, dt, osl⟩ := o
    rw [q] at c2 e
    cases dt with
    | func fd =>
      obtain ⟨n1, n2, n3, n4, n5, n6, n7, n8, n9, n10, n11, n12, n13, n14, n15⟩ := fd
      have e2 : (some (n1, n2, n3, n4, n5, n6, n15) : FnN) = some (d.name, d.qual, defArgs d.st, .stmts (defBody d.st), defScope d.st, mainGlobals, builtinsNs) := e
      simp only [Option.some.injEq, Prod.mk.injEq] at e2
      obtain ⟨h1, h2, h3, h4, h5, h6, h7⟩ := e2
      subst h1 h2 h3 h4 h5 h6 h7
      have c3 : (PySem.W.codeIn K n13 d.qual && (decide (n8 = Value.none) && cloB K n7 d.clo)) = true := c2
      obtain ⟨k1, k2⟩ := He.ba c3
      obtain ⟨k3, k4⟩ := He.ba k2
      have k3' : n8 = Value.none := of_decide_eq_true k3
      subst k3'
      exact ⟨oc, od, n9, n10, n11, n12, n13, n14, n7, osl, rfl, k1, k4, kp⟩
    | _ => cases c2
theorem DefN.fun_ {d : DefN} (c : d.ok K = true) (e : fnN K (d.adr K) = d.val) (h : d.clo = none) : ∃ fd, Fun K d.name d.qual d.st (d.adr K) fd := by
  obtain ⟨oc, od, kV, doc, pm, an, cdv, ct, cl, osl, l, h1, h2, kp⟩ := DefN.raw c e
  rw [h] at h2
  have h3 : cl = [] := List.isEmpty_iff.mp h2
  subst h3
  exact ⟨_, ⟨oc, od, kV, doc, pm, an, cdv, ct, osl, rfl, l, h1⟩, kp⟩
end
/-! ### the facts of the head -/
def faL : List He.Fa := [.glo "rows", .glo "own_work", .glo "best_continuation", .glo "demands", .glo "system_demands", .glo "heaviest", .glo "best_step", .glo "make_ratio", .glo "compare_ratios", .glo "circuits", .glo "extend_path", .glo "circuit_mean", .glo "best_circuit", .glo "share", .glo "supply_of_first", .glo "supply", .glo "way_weight", .glo "weights", .glo "improve", .glo "linear_bound", .glo "system_bound", .glo "decisive_horizon", .glo "shift", .glo "greatest_deadline", .glo "greatest_distance", .glo "row_growth", .glo "come_round", .glo "rounds", .glo "first_overfull", .glo "is_decided", .glo "first_miss", .glo "is_name", .glo "are_kinds", .glo "are_ways", .glo "is_table", .glo "trial", .glo "can_live", .glo "sets_of", .glo "contains", .glo "has_part", .glo "cores", .glo "_law_row", .glo "_law_numbers", .glo "_law_name", .glo "_law_table", .glo "_law_kinds", .glo "_law_ways", .glo "_law_specs", .glo "_law_system", .glo "_law_filled", .glo "_law_sets", .glo "_law_contains", .glo "law", .glo "Miss", .cls "Miss", .mkr "Miss", .glo "Task", .cls "Task", .mkr "Task", .glo "System", .cls "System", .mkr "System", .glo "Undecided", .meth "Task" "kind_number", .meth "Task" "cost", .meth "Task" "ways_from", .meth "System" "only", .free "len", .free "max", .free "min", .free "range", .free "enumerate", .free "sum", .free "abs", .free "int", .free "str", .free "list", .free "tuple", .free "all", .free "divmod", .free "super", .noat "Task" "name", .noat "Task" "kinds", .noat "Task" "ways", .noat "System" "tasks", .noat "System" "table", .noat "Miss" "instant", .noat "Miss" "start", .noat "Miss" "releases", .int "MOST_NAME_CHARS" 12, .int "MOST_KINDS" 8, .int "MOST_WAYS" 16, .int "MOST_COST" 1000, .int "MOST_DEADLINE" 1000, .int "MOST_DISTANCE" 1000, .int "MOST_TASKS" 6, .int "MOST_SLOTS" 1001, .int "MOST_CAPACITY" 1000000, .str "NAME_CHARS" "abcdefghijklmnopqrstuvwxyz0123456789", .exm "Undecided" "Undecided" true, .noat "Undecided" "horizon"]
def gcdB (K : PySem.W.Frag) : Bool := He.eqO (PySem.W.nsIn K mainGlobals "gcd") (some (some (.builtin "math.gcd")))
def propB (K : PySem.W.Frag) (f : Str) : Bool := He.eqO (PySem.W.findIn K (.ref (gAd "Task" K)) f) (some (some (.ref (mAd "Task" f K)))) && (He.eqO (PySem.W.specialIn K (.ref (mAd "Task" f K)) "__get__") (some (some (.builtin "property.__get__"))) &&
  (decide (PySem.W.takesIn K (.ref (mAd "Task" f K)) = some true) && (match PySem.W.recIn K (mAd "Task" f K) "property" with
    | some (.ref _ :: _) => true
    | _ => false)))
def clsXB (K : PySem.W.Frag) (C : Addr) : Bool := match K.lookup C with
  | some ⟨c, _, .cls cd, sl⟩ => decide (c = .type "type") && (match cd.mro, sl.toList with
    | .ref D :: bm, [_, _, _, _, some (.builtin n), _] => decide (D = C) && (decide (n = "ValueError.__new__") && (cd.hasDict && (!cd.hasDel && PySem.HandSPX.refsVE bm)))
    | _, _ => false)
  | _ => false
def fileB (K : PySem.W.Frag) (f : Addr) : Bool := match K.lookup f with
  | some ⟨_, _, .func fd, _⟩ => (match fd.code with
    | .ref a => (match K.lookup a with
      | some ⟨_, _, .fields vs, _⟩ => (match (vs[2]? : Option Value) with
        | some (Value.str x _) => ((PySem.Challenge.rw_neverlate_k69_whole_cores_cover.prog.main.file : Str) == x)
        | _ => false)
      | _ => false)
    | _ => false)
  | _ => false
def undB1 (K : PySem.W.Frag) : Bool := clsXB K (gAd "Undecided" K) && (He.eqO (PySem.W.findIn K (.ref (gAd "Undecided" K)) "__setattr__") (some (some (.builtin "object.__setattr__"))) && (He.eqO (PySem.W.findIn K (.ref (gAd "Undecided" K)) "__getattribute__") (some (some (.builtin "BaseException.__getattribute__"))) &&
  (He.eqO (PySem.W.findIn K (.ref (gAd "Undecided" K)) "__getattr__") (some none) && He.eqO (PySem.W.findIn K (.ref (gAd "Undecided" K)) "__init__") (some (some (.ref (mAd "Undecided" "__init__" K)))))))
def undB2 (K : PySem.W.Frag) : Bool := decide (PySem.W.typeIn K (.ref (mAd "Undecided" "__init__" K)) = some (.type "function")) && (PySem.W.keepIn K (.ref (gAd "Undecided" K)) && (decide (PySem.W.subIn K (.ref (gAd "Undecided" K)) (.type "BaseException") = some true) &&
  (decide (PySem.W.subIn K (.ref (gAd "Undecided" K)) (.type "ValueError") = some true) && (decide (PySem.W.typeIn K (.ref (gAd "Undecided" K)) = some (.type "type")) && PySem.W.hasDictIn K (gAd "Undecided" K)))))
def undB3 (K : PySem.W.Frag) : Bool := He.eqO (PySem.W.nsIn K cStatics "thirdparty.any") (some none) && (He.eqO (PySem.W.ks_superIn K (gAd "Undecided" K) (gAd "Undecided" K) "__init__") (some (some (.builtin "ValueError.__init__"))) &&
  (decide (PySem.W.mroIn K (gAd "Undecided" K) (.ref (gAd "Undecided" K)) = some true) && fileB K (mAd "Undecided" "__init__" K)))
abbrev dUndecidedInit : DefN := ⟨mAd "Undecided" "__init__", "__init__", "Undecided.__init__", sUndecidedInit, some "Undecided"⟩
abbrev dRows : DefN := ⟨gAd "rows", "rows", "rows", sRows, none⟩
abbrev dOwnWork : DefN := ⟨gAd "own_work", "own_work", "own_work", sOwnWork, none⟩
abbrev dBestContinuation : DefN := ⟨gAd "best_continuation", "best_continuation", "best_continuation", sBestContinuation, none⟩
abbrev dDemands : DefN := ⟨gAd "demands", "demands", "demands", sDemands, none⟩
abbrev dSystemDemands : DefN := ⟨gAd "system_demands", "system_demands", "system_demands", sSystemDemands, none⟩
abbrev dHeaviest : DefN := ⟨gAd "heaviest", "heaviest", "heaviest", sHeaviest, none⟩
abbrev dBestStep : DefN := ⟨gAd "best_step", "best_step", "best_step", sBestStep, none⟩
abbrev dMakeRatio : DefN := ⟨gAd "make_ratio", "make_ratio", "make_ratio", sMakeRatio, none⟩
abbrev dCompareRatios : DefN := ⟨gAd "compare_ratios", "compare_ratios", "compare_ratios", sCompareRatios, none⟩
abbrev dCircuits : DefN := ⟨gAd "circuits", "circuits", "circuits", sCircuits, none⟩
abbrev dExtendPath : DefN := ⟨gAd "extend_path", "extend_path", "extend_path", sExtendPath, none⟩
abbrev dCircuitMean : DefN := ⟨gAd "circuit_mean", "circuit_mean", "circuit_mean", sCircuitMean, none⟩
abbrev dBestCircuit : DefN := ⟨gAd "best_circuit", "best_circuit", "best_circuit", sBestCircuit, none⟩
abbrev dShare : DefN := ⟨gAd "share", "share", "share", sShare, none⟩
abbrev dSupplyOfFirst : DefN := ⟨gAd "supply_of_first", "supply_of_first", "supply_of_first", sSupplyOfFirst, none⟩
abbrev dSupply : DefN := ⟨gAd "supply", "supply", "supply", sSupply, none⟩
abbrev dWayWeight : DefN := ⟨gAd "way_weight", "way_weight", "way_weight", sWayWeight, none⟩
abbrev dWeights : DefN := ⟨gAd "weights", "weights", "weights", sWeights, none⟩
abbrev dImprove : DefN := ⟨gAd "improve", "improve", "improve", sImprove, none⟩
abbrev dLinearBound : DefN := ⟨gAd "linear_bound", "linear_bound", "linear_bound", sLinearBound, none⟩
abbrev dSystemBound : DefN := ⟨gAd "system_bound", "system_bound", "system_bound", sSystemBound, none⟩
abbrev dDecisiveHorizon : DefN := ⟨gAd "decisive_horizon", "decisive_horizon", "decisive_horizon", sDecisiveHorizon, none⟩
abbrev dShift : DefN := ⟨gAd "shift", "shift", "shift", sShift, none⟩
abbrev dGreatestDeadline : DefN := ⟨gAd "greatest_deadline", "greatest_deadline", "greatest_deadline", sGreatestDeadline, none⟩
abbrev dGreatestDistance : DefN := ⟨gAd "greatest_distance", "greatest_distance", "greatest_distance", sGreatestDistance, none⟩
abbrev dRowGrowth : DefN := ⟨gAd "row_growth", "row_growth", "row_growth", sRowGrowth, none⟩
abbrev dComeRound : DefN := ⟨gAd "come_round", "come_round", "come_round", sComeRound, none⟩
abbrev dRounds : DefN := ⟨gAd "rounds", "rounds", "rounds", sRounds, none⟩
abbrev dMissInit : DefN := ⟨mAd "Miss" "__init__", "__init__", "Miss.__init__", sMissInit, none⟩
abbrev dFirstOverfull : DefN := ⟨gAd "first_overfull", "first_overfull", "first_overfull", sFirstOverfull, none⟩
abbrev dIsDecided : DefN := ⟨gAd "is_decided", "is_decided", "is_decided", sIsDecided, none⟩
abbrev dFirstMiss : DefN := ⟨gAd "first_miss", "first_miss", "first_miss", sFirstMiss, none⟩
abbrev dIsName : DefN := ⟨gAd "is_name", "is_name", "is_name", sIsName, none⟩
abbrev dAreKinds : DefN := ⟨gAd "are_kinds", "are_kinds", "are_kinds", sAreKinds, none⟩
abbrev dAreWays : DefN := ⟨gAd "are_ways", "are_ways", "are_ways", sAreWays, none⟩
abbrev dIsTable : DefN := ⟨gAd "is_table", "is_table", "is_table", sIsTable, none⟩
abbrev dTaskInit : DefN := ⟨mAd "Task" "__init__", "__init__", "Task.__init__", sTaskInit, none⟩
abbrev dTaskLongestDistance : DefN := ⟨pAd "Task" "longest_distance", "longest_distance", "Task.longest_distance", sTaskLongestDistance, none⟩
abbrev dTaskLatestDeadline : DefN := ⟨pAd "Task" "latest_deadline", "latest_deadline", "Task.latest_deadline", sTaskLatestDeadline, none⟩
abbrev dTaskKindNumber : DefN := ⟨mAd "Task" "kind_number", "kind_number", "Task.kind_number", sTaskKindNumber, none⟩
abbrev dTaskCost : DefN := ⟨mAd "Task" "cost", "cost", "Task.cost", sTaskCost, none⟩
abbrev dTaskWaysFrom : DefN := ⟨mAd "Task" "ways_from", "ways_from", "Task.ways_from", sTaskWaysFrom, none⟩
abbrev dSystemInit : DefN := ⟨mAd "System" "__init__", "__init__", "System.__init__", sSystemInit, none⟩
abbrev dSystemOnly : DefN := ⟨mAd "System" "only", "only", "System.only", sSystemOnly, none⟩
abbrev dTrial : DefN := ⟨gAd "trial", "trial", "trial", sTrial, none⟩
abbrev dCanLive : DefN := ⟨gAd "can_live", "can_live", "can_live", sCanLive, none⟩
abbrev dSetsOf : DefN := ⟨gAd "sets_of", "sets_of", "sets_of", sSetsOf, none⟩
abbrev dContains : DefN := ⟨gAd "contains", "contains", "contains", sContains, none⟩
abbrev dHasPart : DefN := ⟨gAd "has_part", "has_part", "has_part", sHasPart, none⟩
abbrev dCores : DefN := ⟨gAd "cores", "cores", "cores", sCores, none⟩
abbrev dLawRow : DefN := ⟨gAd "_law_row", "_law_row", "_law_row", sLawRow, none⟩
abbrev dLawNumbers : DefN := ⟨gAd "_law_numbers", "_law_numbers", "_law_numbers", sLawNumbers, none⟩
abbrev dLawName : DefN := ⟨gAd "_law_name", "_law_name", "_law_name", sLawName, none⟩
abbrev dLawTable : DefN := ⟨gAd "_law_table", "_law_table", "_law_table", sLawTable, none⟩
abbrev dLawKinds : DefN := ⟨gAd "_law_kinds", "_law_kinds", "_law_kinds", sLawKinds, none⟩
abbrev dLawWays : DefN := ⟨gAd "_law_ways", "_law_ways", "_law_ways", sLawWays, none⟩
abbrev dLawSpecs : DefN := ⟨gAd "_law_specs", "_law_specs", "_law_specs", sLawSpecs, none⟩
abbrev dLawSystem : DefN := ⟨gAd "_law_system", "_law_system", "_law_system", sLawSystem, none⟩
abbrev dLawFilled : DefN := ⟨gAd "_law_filled", "_law_filled", "_law_filled", sLawFilled, none⟩
abbrev dLawSets : DefN := ⟨gAd "_law_sets", "_law_sets", "_law_sets", sLawSets, none⟩
abbrev dLawContains : DefN := ⟨gAd "_law_contains", "_law_contains", "_law_contains", sLawContains, none⟩
abbrev dLaw : DefN := ⟨gAd "law", "law", "law", sLaw, none⟩
def fnsA : List DefN := [dUndecidedInit, dRows, dOwnWork, dBestContinuation, dDemands, dSystemDemands, dHeaviest, dBestStep, dMakeRatio, dCompareRatios, dCircuits, dExtendPath, dCircuitMean, dBestCircuit, dShare, dSupplyOfFirst, dSupply, dWayWeight, dWeights, dImprove, dLinearBound, dSystemBound, dDecisiveHorizon, dShift, dGreatestDeadline, dGreatestDistance, dRowGrowth, dComeRound, dRounds, dMissInit, dFirstOverfull]
def fnsB : List DefN := [dIsDecided, dFirstMiss, dIsName, dAreKinds, dAreWays, dIsTable, dTaskInit, dTaskLongestDistance, dTaskLatestDeadline, dTaskKindNumber, dTaskCost, dTaskWaysFrom, dSystemInit, dSystemOnly, dTrial, dCanLive, dSetsOf, dContains, dHasPart, dCores, dLawRow, dLawNumbers, dLawName, dLawTable, dLawKinds, dLawWays, dLawSpecs, dLawSystem, dLawFilled, dLawSets, dLawContains, dLaw]
def fnsAll : List DefN := fnsA ++ fnsB

def looseA : List PySem.Str := ["gcd", "_wall", "NeverlateError", "InvalidRatio", "InvalidTask", "InvalidTable", "InvalidSystem", "UnknownName", "UnknownNumber", "Undecided", "rows", "own_work", "best_continuation", "demands", "system_demands", "heaviest", "best_step", "make_ratio", "compare_ratios", "circuits", "extend_path", "circuit_mean", "best_circuit", "share", "supply_of_first", "supply"]
def looseB : List PySem.Str := ["way_weight", "weights", "improve", "linear_bound", "system_bound", "decisive_horizon", "shift", "greatest_deadline", "greatest_distance", "row_growth", "come_round", "rounds", "Miss", "first_overfull", "is_decided", "first_miss", "NAME_CHARS", "MOST_NAME_CHARS", "MOST_KINDS", "MOST_WAYS", "MOST_COST", "MOST_DEADLINE", "MOST_DISTANCE", "MOST_TASKS", "MOST_SLOTS", "MOST_CAPACITY"]
def looseC : List PySem.Str := ["is_name", "are_kinds", "are_ways", "is_table", "Task", "System", "trial", "can_live", "sets_of", "contains", "has_part", "cores", "_law_row", "_law_numbers", "_law_name", "_law_table", "_law_kinds", "_law_ways", "_law_specs", "_law_system", "_law_filled", "_law_sets", "_law_contains"]
abbrev R : PySem.W.OpenRow := PySem.W.OpenLaw.row PySem.Challenge.rw_neverlate_k69_whole_cores_cover
def exA (K : PySem.W.Frag) : Bool := faL.all fun f => f.ok K
def exB (K : PySem.W.Frag) : Bool := gcdB K && (propB K "longest_distance" && (propB K "latest_deadline" && (undB1 K && (undB2 K && undB3 K))))
def exT (K : PySem.W.Frag) : Bool := exA K && exB K
abbrev hk : PySem.W.Hook := hookN 6 exT fnsAll
def ob (s : PySem.W.SharedT) : AlN := obsNG 6 exT fnsAll (HandSHeadRun.getT s)
theorem ob_eq (s : PySem.W.SharedT) : ob s = hk.obs s.abs := obsNG_eq (HandSHeadRun.getT_eq s)
end NlH
set_option maxHeartbeats 0
namespace NlH
open PySem PySem.Spec PyProof.Rows PySem.W HandSHeadRun Nl
/-! ### the load of the text, looked at in three parts (each runs it anew: the memory of one check stays small) -/
noncomputable abbrev whole (w : World) : Option (Shared × SharedT) := wholeF (fun p => stepQ (denQ tabQ) p w) fenceQ 20000 R.prog
abbrev vw : Program := view R.prog [0, 89]
abbrev lse : List PySem.Str := looseA ++ looseB ++ looseC
/-- the part of the heap that the facts are read in -/
def kO (s : SharedT) : PySem.W.Frag := He.frG (getT s) (asS (getT s) 6)
/-- what the end of the run asks of the load itself -/
noncomputable abbrev okO (x : Shared × SharedT) := (looksF R.prog x.1.heap x.2.abs, seenQ vw lse (importedModules R.prog.main.body) (fun s => xlAt vw [] s && recOk R.toRowW.records s) x.2.abs)
def obF (fn : List DefN) (K : PySem.W.Frag) : Bool × List FnN := (fn.all fun d => d.ok K, fn.map fun d => fnN K (d.adr K))
theorem run1 (w : World) : (whole w).map okO = some (true, openGood vw lse) := by
  kernel_rfl
theorem run2 (w : World) : (whole w).map (fun x => exT (kO x.2)) = some true := by
  kernel_rfl
theorem run3 (w : World) : (whole w).map (fun x => obF fnsAll (kO x.2)) = some (true, fnsAll.map DefN.val) := by
  kernel_rfl
theorem three {α β γ : Type} {o : Option α} {f : α → Bool × β} {e : α → Bool} {a : α → Bool × List γ} {r : β} {p : List γ} (h1 : o.map f = some (true, r)) (h2 : o.map e = some true) (h3 : o.map a = some (true, p)) :
    o.map (fun x => ((f x).1, (f x).2, (e x && (a x).1, (a x).2))) = some (true, r, (true, p)) := by
  cases o with
  | none => cases h1
  | some x =>
    have e1 : f x = (true, r) := Option.some.inj h1
    have e2 : e x = true := Option.some.inj h2
    have e3 : a x = (true, p) := Option.some.inj h3
    show some ((f x).1, (f x).2, (e x && (a x).1, (a x).2)) = _
    rw [e1, e2, e3]
    rfl
theorem ob_parts (s : SharedT) : ob s = (exT (kO s) && (obF fnsAll (kO s)).1, (obF fnsAll (kO s)).2) := rfl
theorem run (w : World) : HandSHeadRun.RunEqI R (PySem.W.view R.prog [0, 89]) hk ob 20000 (looseA ++ looseB ++ looseC) w := by
  have h := three (run1 w) (run2 w) (run3 w)
  have e2 : (fun x : Shared × SharedT => (looksF R.prog x.1.heap x.2.abs, seenQ vw lse (importedModules R.prog.main.body) (fun s => xlAt vw [] s && recOk R.toRowW.records s) x.2.abs, ob x.2)) = fun x => ((okO x).1, (okO x).2, (exT (kO x.2) && (obF fnsAll (kO x.2)).1, (obF fnsAll (kO x.2)).2)) :=
    funext fun x => congrArg (fun z : AlN => (looksF R.prog x.1.heap x.2.abs, seenQ vw lse (importedModules R.prog.main.body) (fun s => xlAt vw [] s && recOk R.toRowW.records s) x.2.abs, z)) (ob_parts x.2)
  exact (congrArg (fun f => Option.map f (whole w)) e2).trans h
end NlH
set_option maxHeartbeats 4000000
/-! NM: the program as plain functions. -/
namespace Nl
open PySem
abbrev Kd := Str × Int × Int
abbrev Wy := Str × Str × Int
structure Tk where
  name : Str
  kinds : List Kd
  ways : List Wy
/-- the number of a kind: the first one of that name -/
def kno (t : Tk) (x : Str) : Nat := t.kinds.findIdx fun k => decide (k.1 = x)
def hasK (t : Tk) (x : Str) : Prop := ∃ k ∈ t.kinds, k.1 = x
def waysFrom (t : Tk) (x : Str) : List (Str × Int) := (t.ways.filter fun w => decide (w.1 = x)).map fun w => w.2
def mx (i j : Int) : Int := if j > i then j else i
def maxL (l : List Int) : Int := l.foldl mx (l.headD 0)
/-- what a task must be -/
structure WfT (t : Tk) : Prop where
  ne : 0 < t.kinds.length
  len : t.kinds.length ≤ 2
  wlen : t.ways.length ≤ 3
  cost : ∀ k ∈ t.kinds, 1 ≤ k.2.1 ∧ k.2.1 ≤ 4
  dead : ∀ k ∈ t.kinds, 1 ≤ k.2.2 ∧ k.2.2 ≤ 9
  src : ∀ w ∈ t.ways, hasK t w.1
  tgt : ∀ w ∈ t.ways, hasK t w.2.1
  dist : ∀ w ∈ t.ways, 1 ≤ w.2.2 ∧ w.2.2 ≤ 6
theorem kno_spec {t : Tk} {x : Str} (h : hasK t x) : ∃ k, t.kinds[kno t x]? = some k ∧ k.1 = x ∧ ∀ (m : Nat) k', m < kno t x → t.kinds[m]? = some k' → ¬ k'.1 = x := by
  obtain ⟨k, hk, e⟩ := h
  have hlt : kno t x < t.kinds.length := List.findIdx_lt_length_of_exists ⟨k, hk, by simpa using e⟩
  refine ⟨t.kinds[kno t x], by simp [hlt], ?_, fun m k' hm hk' => ?_⟩
  · have := List.findIdx_getElem (w := hlt)
    unfold kno
    simpa using this
  · have := List.not_of_lt_findIdx (p := fun k : Kd => decide (k.1 = x)) (xs := t.kinds) (i := m) hm
    obtain ⟨h1, h2⟩ := List.getElem?_eq_some_iff.mp hk'
    intro q
    rw [← h2] at q
    simp [q] at this
theorem kno_lt {t : Tk} {x : Str} (h : hasK t x) : kno t x < t.kinds.length := by
  obtain ⟨k, h1, _⟩ := kno_spec h
  exact (List.getElem?_eq_some_iff.mp h1).1
theorem mx_le {i j : Int} : i ≤ mx i j ∧ j ≤ mx i j := by unfold mx; split <;> omega
theorem foldl_mx : ∀ (l : List Int) (a : Int), a ≤ l.foldl mx a ∧ (∀ y ∈ l, y ≤ l.foldl mx a) ∧ (l.foldl mx a = a ∨ l.foldl mx a ∈ l)
  | [], a => ⟨Int.le_refl _, fun y hy => (by simp at hy), .inl rfl⟩
  | x :: l, a => by
    obtain ⟨h1, h2, h3⟩ := foldl_mx l (mx a x)
    have h4 := @mx_le a x
    refine ⟨Int.le_trans h4.1 h1, fun y hy => ?_, ?_⟩
    · rcases List.mem_cons.mp hy with e | hy
      · rw [e]; exact Int.le_trans h4.2 h1
      · exact h2 y hy
    · show l.foldl mx (mx a x) = a ∨ l.foldl mx (mx a x) ∈ x :: l
      rcases h3 with e | e
      · have h5 : mx a x = a ∨ mx a x = x := by
          unfold mx
          split
          · exact .inr rfl
          · exact .inl rfl
        rw [e]
        rcases h5 with h5 | h5
        · exact .inl h5
        · exact .inr (by rw [h5]; exact List.mem_cons_self)
      · exact .inr (List.mem_cons_of_mem _ e)
/-- the greatest is one alone -/
theorem maxL_eq {l : List Int} {m : Int} (h : m ∈ l) (hm : ∀ y ∈ l, y ≤ m) : m = maxL l := by
  obtain ⟨h1, h2, h3⟩ := foldl_mx l (l.headD 0)
  have e1 := h2 m h
  have : maxL l ≤ m := by
    rcases h3 with e | e
    · have : l.headD 0 ∈ l := by
        cases l with
        | nil => simp at h
        | cons a l => simp
      show l.foldl mx _ ≤ m
      rw [e]
      exact hm _ this
    · exact hm _ e
  exact Int.le_antisymm e1 this
/-! ### demand -/
def bestCont (t : Tk) (x : Str) (size : Int) (found : List (List Int)) : Int :=
  (waysFrom t x).foldl (fun best w => if w.2 ≤ size then mx best ((found.getD (size - w.2).toNat []).getD (kno t w.1) 0) else best) 0
def ownWork (k : Kd) (size : Int) : Int := if k.2.2 ≤ size then k.2.1 else 0
def rowAt (t : Tk) (size : Int) (found : List (List Int)) : List Int := t.kinds.map fun k => ownWork k size + bestCont t k.1 size found
def rowsN (t : Tk) : Nat → List (List Int)
  | 0 => []
  | n + 1 => rowsN t n ++ [rowAt t n (rowsN t n)]
def rowsM (t : Tk) (h : Int) : List (List Int) := rowsN t (h + 1).toNat
def demandsM (t : Tk) (h : Int) : List Int := (rowsM t h).map maxL
def addL (a b : List Int) : List Int := a.mapIdx fun i x => x + b.getD i 0
def sysDem (ts : List Tk) (h : Int) : List Int := ts.foldl (fun tot t => addL tot (demandsM t h)) (List.replicate (h + 1).toNat 0)
theorem rowsN_len (t : Tk) : ∀ n, (rowsN t n).length = n
  | 0 => rfl
  | n + 1 => by simp [rowsN, rowsN_len t n]
theorem rowsN_take (t : Tk) : ∀ (n m : Nat), m ≤ n → (rowsN t n).take m = rowsN t m
  | 0, m, h => by
    have : m = 0 := by omega
    subst this; rfl
  | n + 1, m, h => by
    by_cases e : m = n + 1
    · subst e
      rw [List.take_of_length_le (by rw [rowsN_len]; exact Nat.le_refl _)]
    · have hm : m ≤ n := by omega
      show (rowsN t n ++ [_]).take m = _
      rw [List.take_append_of_le_length (by rw [rowsN_len]; exact hm)]
      exact rowsN_take t n m hm
theorem rowAt_len (t : Tk) (s : Int) (f : List (List Int)) : (rowAt t s f).length = t.kinds.length := by simp [rowAt]
theorem rowsN_row (t : Tk) : ∀ (n : Nat) (r : List Int), r ∈ rowsN t n → r.length = t.kinds.length
  | 0, r, h => by simp [rowsN] at h
  | n + 1, r, h => by
    rcases List.mem_append.mp (show r ∈ rowsN t n ++ [_] from h) with h | h
    · exact rowsN_row t n r h
    · rw [List.mem_singleton.mp h, rowAt_len]
end Nl
set_option maxHeartbeats 4000000
/-! N1: tasks in the heap; kind_number, ways_from, own_work, best_continuation. -/
namespace Nl
open PySem PySem.Spec PyProof.Rows L2
/-! ### objects -/
def Tups {α : Type} (f : α → List V) (H : Hp) (as : List Addr) (xs : List α) : Prop := as.length = xs.length ∧ ∀ (i : Nat) (x : α), xs[i]? = some x → ∃ p, as[i]? = some p ∧ H p = some (.tup (f x))
def kdV (k : Kd) : List V := [.str k.1, .int k.2.1, .int k.2.2]
def wyV (w : Wy) : List V := [.str w.1, .str w.2.1, .int w.2.2]
def nxV (w : Str × Int) : List V := [.str w.1, .int w.2]
abbrev tkF (n : Str) (ka wa : Addr) : List (Str × V) := [("name", .str n), ("kinds", .ref ka), ("ways", .ref wa)]
structure TkO (ad : Str → Addr) (H : Hp) (a dx ka wa : Addr) (kas was : List Addr) (t : Tk) : Prop where
  ob : H a = some (.ins (ad "Task") dx (tkF t.name ka wa))
  ko : H ka = some (.tup (kas.map V.ref))
  wo : H wa = some (.tup (was.map V.ref))
  ks : Tups kdV H kas t.kinds
  ws : Tups wyV H was t.ways
def TkAt (ad : Str → Addr) (H : Hp) (a : Addr) (t : Tk) : Prop := ∃ dx ka wa kas was, TkO ad H a dx ka wa kas was t
theorem Tups.same {α : Type} {f : α → List V} {H H' : Hp} {as : List Addr} {xs : List α} (h : Tups f H as xs) (s : Same H H') : Tups f H' as xs :=
  ⟨h.1, fun i x e => let ⟨p, h1, h2⟩ := h.2 i x e; ⟨p, h1, s _ _ h2⟩⟩
theorem TkO.same {ad : Str → Addr} {H H' : Hp} {a dx ka wa : Addr} {kas was : List Addr} {t : Tk} (h : TkO ad H a dx ka wa kas was t) (s : Same H H') : TkO ad H' a dx ka wa kas was t :=
  ⟨s _ _ h.ob, s _ _ h.ko, s _ _ h.wo, h.ks.same s, h.ws.same s⟩
theorem TkAt.same {ad : Str → Addr} {H H' : Hp} {a : Addr} {t : Tk} (h : TkAt ad H a t) (s : Same H H') : TkAt ad H' a t := by
  obtain ⟨dx, ka, wa, kas, was, h⟩ := h
  exact ⟨dx, ka, wa, kas, was, h.same s⟩
theorem Tups.get {α : Type} {f : α → List V} {H : Hp} {as : List Addr} {xs : List α} (h : Tups f H as xs) {i : Nat} {v : V} (e : (as.map V.ref)[i]? = some v) : ∃ p x, v = .ref p ∧ as[i]? = some p ∧ xs[i]? = some x ∧ H p = some (.tup (f x)) := by
  rw [List.getElem?_map] at e
  cases ea : as[i]? with
  | none => rw [ea] at e; cases e
  | some p =>
    rw [ea] at e
    have hi : i < xs.length := by rw [← h.1]; exact (List.getElem?_eq_some_iff.mp ea).1
    obtain ⟨q, h1, h2⟩ := h.2 i xs[i] (by simp [hi])
    rw [ea] at h1
    cases h1
    exact ⟨p, xs[i], (Option.some.inj e).symm, rfl, by simp [hi], h2⟩
theorem Same.up {H : Hp} {p : Addr} {o : HO} (h : H p = none) : Same H (upd H p o) := fun b u e => by rw [upd_ne (ne_of_none e h)]; exact e
theorem Same.up2 {H H1 : Hp} {p : Addr} {o : HO} (s : Same H H1) (h : H p = none) : Same H (upd H1 p o) := fun b u e => by rw [upd_ne (ne_of_none e h)]; exact s b u e
/-! ### comprehensions: what each turn gives, all else as it was -/
section
variable {J : It} {n : Nat} {G : Hp → Prop} {Y : Nat → Hp → V → Hp → Prop}
theorem yes_eq {c : Prop} {te : TE} {σ2 : L2.St} {H2 : Hp} {Kc : V → Hp → Prop} {E : Hp → Prop} : (c ∧ tYes σ2 H2 fun b H3 => if b = true then te σ2 H3 Kc else E H3) = (c ∧ te σ2 H2 Kc) := by
  unfold tYes
  simp
/-- a comprehension without a test whose turns leave all that stood as it was -/
theorem lc_same (w : Walk J n G Y) {g : TG} {te : TE} {vs : List Nat} {σ : L2.St} {H1 : Hp} {D : Addr} {Qd : Hp → Prop} (R : Nat → V → Hp → Prop) (hR : ∀ i v H H', R i v H → (∀ b o, b ≠ D → H b = some o → H' b = some o) → R i v H') (hn : n ≤ 100000) (hD : H1 D = none) (hG : ∀ H, Same H1 H → G H)
    (hs : ∀ i x H H' acc (Kc : V → Hp → Prop), i < n → Same H1 H → H D = some (.lst acc) → Y i H x H' → (∀ y H4, Same H H4 → R i y H4 → Kc y H4) → g x (wipe σ vs) H' fun σ2 H2 => wipe σ2 vs = wipe σ vs ∧ te σ2 H2 Kc)
    (hd : ∀ H ys, Same H1 H → H D = some (.lst ys) → ys.length = n → (∀ i y, ys[i]? = some y → R i y H) → Qd H) :
    ∃ W : Nat → Nat → Hp → Prop, (∃ m, W 0 m (upd H1 D (.lst []))) ∧ ∀ i m H, W i m H →
      (J.stop i H ∧ Qd H) ∨ (J.go i H ∧ ∃ Nx : Hp → Prop, (∀ H', Nx H' → ∃ m', m' < m ∧ W (i + 1) m' H') ∧ ∀ x H', J.yld i H x H' → g x (wipe σ vs) H' fun σ2 H2 => wipe σ2 vs = wipe σ vs ∧ tYes σ2 H2 fun b H3 =>
        if b = true then te σ2 H3 fun y H4 => ∃ acc, H4 D = some (.lst acc) ∧ acc.length < sizeLine ∧ Nx (upd H4 D (.lst (acc ++ [y]))) else Nx H3) := by
  refine lc_it w (fun i H => Same H1 H ∧ ∃ ys, H D = some (.lst ys) ∧ ys.length = i ∧ ∀ j y, ys[j]? = some y → R j y H) ⟨Same.up hD, [], upd_same, rfl, fun j y e => by simp at e⟩ (fun i H _ h => hG H h.1) ?_ (fun H ⟨s, ys, h1, h2, h3⟩ => hd H ys s h1 h2 h3)
  rintro i x H H' hi ⟨s1, ys, h1, h2, h3⟩ hy
  have key := hs i x H H' ys (fun y H4 => ∃ acc, H4 D = some (.lst acc) ∧ acc.length < sizeLine ∧ (Same H1 (upd H4 D (.lst (acc ++ [y]))) ∧ ∃ zs, (upd H4 D (.lst (acc ++ [y]))) D = some (.lst zs) ∧ zs.length = i + 1 ∧ ∀ j y', zs[j]? = some y' → R j y' (upd H4 D (.lst (acc ++ [y]))))) hi s1 h1 hy ?_
  · have e : (fun (σ2 : L2.St) (H2 : Hp) => wipe σ2 vs = wipe σ vs ∧ tYes σ2 H2 fun b H3 => if b = true then te σ2 H3 fun y H4 => ∃ acc, H4 D = some (.lst acc) ∧ acc.length < sizeLine ∧ (Same H1 (upd H4 D (.lst (acc ++ [y]))) ∧ ∃ zs, (upd H4 D (.lst (acc ++ [y]))) D = some (.lst zs) ∧ zs.length = i + 1 ∧ ∀ j y', zs[j]? = some y' → R j y' (upd H4 D (.lst (acc ++ [y])))) else (Same H1 H3 ∧ ∃ ys, H3 D = some (.lst ys) ∧ ys.length = i + 1 ∧ ∀ j y, ys[j]? = some y → R j y H3)) =
        (fun (σ2 : L2.St) (H2 : Hp) => wipe σ2 vs = wipe σ vs ∧ te σ2 H2 fun y H4 => ∃ acc, H4 D = some (.lst acc) ∧ acc.length < sizeLine ∧ (Same H1 (upd H4 D (.lst (acc ++ [y]))) ∧ ∃ zs, (upd H4 D (.lst (acc ++ [y]))) D = some (.lst zs) ∧ zs.length = i + 1 ∧ ∀ j y', zs[j]? = some y' → R j y' (upd H4 D (.lst (acc ++ [y]))))) := by
      funext σ2 H2
      exact yes_eq
    rw [e]
    exact key
  · intro y H4 s4 r4
    have hD4 := s4 _ _ h1
    refine ⟨ys, hD4, Nat.lt_of_le_of_lt (show ys.length ≤ 100000 by omega) (by decide), ?_, ys ++ [y], upd_same, by simp [h2], fun j z e => ?_⟩
    · exact Same.up2 (s1.trans s4) hD
    · have up : ∀ {j z}, R j z H4 → R j z (upd H4 D (.lst (ys ++ [y]))) := fun {j z} r => by
        exact hR j z H4 _ r fun b o hb e => by rw [upd_ne hb]; exact e
      by_cases hj : j < ys.length
      · rw [List.getElem?_append_left hj] at e
        exact up (hR _ _ _ _ (h3 j z e) fun b o _ q => s4 b o q)
      · rw [List.getElem?_append_right (by omega)] at e
        have : j - ys.length = 0 := by
          have := (List.getElem?_eq_some_iff.mp e).1
          simp at this
          omega
        rw [this] at e
        cases e
        have ej : j = i := by omega
        rw [ej]
        exact up r4
end
end Nl
set_option maxHeartbeats 4000000
namespace Nl
open PySem PySem.Spec PyProof.Rows L2
section
variable {P : Program} {w : World} {K : PySem.W.Frag} {mg : Str → Option Value} {base : Heap} {ad : Str → Addr} {fd : Str → FuncData}
/-! ### own_work -/
theorem scOwn : FnScope ["kind", "size"] ["kind", "size"] (defScope sOwnWork) := ⟨rfl, rfl, rfl, by decide +kernel, rfl, by decide +kernel, by decide +kernel⟩
def spOwn : Sp := fun vs H Q _ => ∃ (p : Addr) (k : Kd) (z : Int), vs = [.ref p, .int z] ∧ H p = some (.tup (kdV k)) ∧ Q (.int (ownWork k z)) H
theorem ok_own (T : Tx K mg ad fd) : FnOk P w K mg base CX0 1 (ad "own_work") (fd "own_work") ["kind", "size"] spOwn := by
  refine T.ownWork.fn.ok scOwn (fun vs H Q E h => ?_) (fun cdv A outer s H vs Q E hr h => ?_)
  · obtain ⟨p, k, z, rfl, _⟩ := h
    rfl
  · obtain ⟨p, k, z, rfl, hp, q⟩ := h
    refine ⟨_, pss_cons (ps_if (pt_cmpR op_le (pe_ix ix_tup (pv 0) pe_int (fun _ _ => rfl)) (pv 1) (nomark _)) (pss_one (ps_ret (pe_ix ix_tup (pv 0) pe_int (fun _ _ => rfl)))) pss_nil) (pss_one (ps_ret pe_int)), ?_⟩
    refine ⟨_, rfl, _, _, _, _, rfl, rfl, SqT.of hp, rfl, _, rfl, _, _, rfl, rfl, _, rfl, ite2 (fun c => ?_) (fun c => ?_)⟩
    · refine ⟨_, rfl, _, _, _, _, rfl, rfl, SqT.of hp, rfl, ?_⟩
      have e : ownWork k z = k.2.1 := if_pos (of_decide_eq_true c)
      rw [e] at q
      exact q
    · have e : ownWork k z = 0 := if_neg (fun z => c (decide_eq_true z))
      rw [e] at q
      exact q
/-! ### Task.kind_number -/
theorem scKno : FnScope ["self", "kind_name", "number", "kind"] ["self", "kind_name"] (defScope sTaskKindNumber) := ⟨rfl, rfl, rfl, by decide +kernel, rfl, by decide +kernel, by decide +kernel⟩
def spKno (ad : Str → Addr) : Sp := fun vs H Q _ => ∃ (a : Addr) (t : Tk) (x : Str), vs = [.ref a, .str x] ∧ TkAt ad H a t ∧ hasK t x ∧ ∀ H', Same H H' → Q (.int (kno t x : Nat)) H'
theorem ok_kno (T : Tx K mg ad fd) : FnOk P w K mg base CX0 1 (ad "Task.kind_number") (fd "Task.kind_number") ["self", "kind_name"] (spKno ad) := by
  refine T.taskKindNumber.fn.ok scKno (fun vs H Q E h => ?_) (fun cdv A outer s H vs Q E hr h => ?_)
  · obtain ⟨a, t, x, rfl, _⟩ := h
    rfl
  · obtain ⟨a, t, x, rfl, ⟨dx, ka, wa, kas, was, O⟩, hx, q⟩ := h
    obtain ⟨k0, hk0, hk1, hk2⟩ := kno_spec hx
    refine ⟨_, pss_cons (ps_for PassesOwn.never rfl (pi_enumT (by rfl) T.b_enumerate (pa_cons (pe_fld (pv 0) rfl) pa_nil)) (pg_tup rfl (pgs_cons (pg_name (i := 2) scKno.nd rfl (.inl rfl)) (pgs_cons (pg_name (i := 3) scKno.nd rfl (.inl rfl)) pgs_nil)))
      (pss_one (ps_if (pt_cmpR op_eq (pe_ix ix_tup (pv 3) pe_int (fun _ _ => rfl)) (pv 1) (nomark _)) (pss_one (ps_ret (pv 2))) pss_nil)))
      (pss_one ps_never), ?_⟩
    refine ⟨_, rfl, a, _, dx, _, _, rfl, O.ob, T.taskInit.cl, T.nTask_kinds, rfl, ka, _, rfl, SqT.of O.ko, for_it (walk_enumT (a := ka) (xs := kas.map V.ref)) (fun i σ H' => Same H H' ∧ i ≤ kno t x ∧ ∃ v2 v3, σ = [some (.ref a), some (.str x), v2, v3]) ⟨Same.refl H, Nat.zero_le _, none, none, rfl⟩
      (fun i σ H' _ h => SqT.of (h.1 _ _ O.ko)) ?_ ?_⟩
    · rintro i v σ H1 H2 hi ⟨s1, hle, v2, v3, rfl⟩ ⟨T1, y, z, rfl, hn, rfl, ey, ez⟩
      obtain ⟨p, k, rfl, hp, hk, hpt⟩ := (O.ks.same s1).get ez
      cases ey
      have s2 : Same H1 (upd H1 T1 (.tup [.int (i : Nat), .ref p])) := Same.up hn
      refine ⟨_, _, rfl, SqT.of upd_same, rfl, _, _, rfl, _, _, rfl, ⟨rfl, ?_⟩⟩
      refine ⟨_, rfl, _, _, _, _, rfl, rfl, SqT.of (s2 _ _ hpt), rfl, _, rfl, rfl, _, rfl, ite2 (fun c => ?_) (fun c => ?_)⟩
      · have e : k.1 = x := by have := of_decide_eq_true c; injection this
        have ei : i = kno t x := by
          by_cases hlt : i < kno t x
          · exact absurd e (hk2 i k hlt hk)
          · omega
        subst ei
        exact ⟨_, rfl, q _ (s1.trans s2)⟩
      · have e : ¬ k.1 = x := fun z => c (decide_eq_true (by rw [z]))
        refine ⟨s1.trans s2, ?_, _, _, rfl⟩
        by_cases hlt : i < kno t x
        · exact hlt
        · have ei : i = kno t x := by omega
          subst ei
          rw [hk] at hk0
          cases hk0
          exact absurd hk1 e
    · rintro σ H1 ⟨s1, hle, v2, v3, rfl⟩
      have := (List.getElem?_eq_some_iff.mp hk0).1
      rw [List.length_map, O.ks.1] at hle
      exact absurd hle (by omega)
end
end Nl
set_option maxHeartbeats 4000000
namespace L2
open PySem PySem.Spec PyProof.Rows
/-- xs[i], 0 ≤ i, by values -/
def rGetL (K : PySem.W.Frag) : V → V → Hp → VK → Prop := fun o i H Q => ∃ (p : Addr) (xs : List V) (j : Nat) (v : V), o = .ref p ∧ i = .int (j : Nat) ∧ SqL K H p xs ∧ xs[j]? = some v ∧ Q v H
theorem get_list {X : Cx} : PGet X (rGetL X.K) := by
  intro pins s σ H o i ov iv Q I ro ri h
  obtain ⟨p, xs, j, v, rfl, rfl, hq, hv, q⟩ := h
  cases ro
  obtain ⟨t, rfl⟩ := ri
  obtain ⟨its, r, pl, hz⟩ := I.list hq
  obtain ⟨u, hu, ru⟩ := r.get hv
  have hl := r.length
  have hn := line63
  have hlt := (List.getElem?_eq_some_iff.mp hu).1
  exact wpAny_getItem_list pl.isList (x := u) (by omega) (by omega) (by simpa using hu) ⟨v, H, I, ru, q⟩
/-- the rules by a written part that is named (for a comprehension's inside) -/
theorem ixT (K : PySem.W.Frag) {X : Cx} (h : X.K = K := by rfl) : IxR X (rIxT K) := h ▸ ix_tup
theorem ixL (K : PySem.W.Frag) {X : Cx} (h : X.K = K := by rfl) : IxR X (rIxL K) := h ▸ ix_list
theorem pe_fldK (K : PySem.W.Frag) {X : Cx} {e : Expr} {f : Str} {pos : Pos} {ta : TE} (he : PE X e ta) (hb : attributeBase e f X.env (eval e X.env) = eval e X.env) (h : X.K = K := by rfl) : PE X (.Attribute e f pos) (tFld K ta f) := h ▸ pe_fld he hb
theorem cr_maxK (K : PySem.W.Frag) {X : Cx} (hc : X.calm = true) (h : X.K = K := by rfl) : CallR X (.builtin "max") (rMax K) := h ▸ cr_max hc
theorem cr_lenK (K : PySem.W.Frag) {X : Cx} (h : X.K = K := by rfl) : CallR X (.builtin "len") (fun xs H Q => ∃ p ys, xs = [.ref p] ∧ (SqL K H p ys ∨ SqT K H p ys) ∧ Q (.int ys.length) H) := h ▸ call_len_seq
theorem cr_listK (K : PySem.W.Frag) {X : Cx} (h : X.K = K := by rfl) : CallR X (.type "list") (fun xs H Q => ∃ p ys, xs = [.ref p] ∧ (SqL K H p ys ∨ SqT K H p ys) ∧ ∀ l, H l = none → Q (.ref l) (upd H l (.lst ys))) := h ▸ call_list_of
end L2
namespace Nl
open PySem PySem.Spec PyProof.Rows L2
/-! ### a comprehension with a test -/
section
variable {J : It} {n : Nat} {G : Hp → Prop} {Y : Nat → Hp → V → Hp → Prop} {α : Type}
theorem lc_filt (w : Walk J n G Y) (xs : List α) (pr : α → Bool) {g : TG} {tt : TT} {te : TE} {vs : List Nat} {σ : L2.St} {H1 : Hp} {D : Addr} {Qd : Hp → Prop} (R : α → V → Hp → Prop) (hR : ∀ x v H H', R x v H → (∀ b o, b ≠ D → H b = some o → H' b = some o) → R x v H') (hx : xs.length = n) (hn : n ≤ 100000) (hD : H1 D = none) (hG : ∀ H, Same H1 H → G H)
    (hs : ∀ i v x H H' acc (Kc : V → Hp → Prop) (Kf : Hp → Prop), xs[i]? = some x → Same H1 H → H D = some (.lst acc) → Y i H v H' → (pr x = true → ∀ y H4, Same H H4 → R x y H4 → Kc y H4) → (pr x = false → ∀ H4, Same H H4 → Kf H4) →
      g v (wipe σ vs) H' fun σ2 H2 => wipe σ2 vs = wipe σ vs ∧ tt σ2 H2 fun b H3 => if b = true then te σ2 H3 Kc else Kf H3)
    (hd : ∀ H ys, Same H1 H → H D = some (.lst ys) → ys.length = (xs.filter pr).length → (∀ (i : Nat) (x : α) (y : V), (xs.filter pr)[i]? = some x → ys[i]? = some y → R x y H) → Qd H) :
    ∃ W : Nat → Nat → Hp → Prop, (∃ m, W 0 m (upd H1 D (.lst []))) ∧ ∀ i m H, W i m H →
      (J.stop i H ∧ Qd H) ∨ (J.go i H ∧ ∃ Nx : Hp → Prop, (∀ H', Nx H' → ∃ m', m' < m ∧ W (i + 1) m' H') ∧ ∀ x H', J.yld i H x H' → g x (wipe σ vs) H' fun σ2 H2 => wipe σ2 vs = wipe σ vs ∧ tt σ2 H2 fun b H3 =>
        if b = true then te σ2 H3 fun y H4 => ∃ acc, H4 D = some (.lst acc) ∧ acc.length < sizeLine ∧ Nx (upd H4 D (.lst (acc ++ [y]))) else Nx H3) := by
  refine lc_it w (fun i H => Same H1 H ∧ ∃ ys, H D = some (.lst ys) ∧ ys.length = ((xs.take i).filter pr).length ∧ ∀ (j : Nat) (x : α) (y : V), ((xs.take i).filter pr)[j]? = some x → ys[j]? = some y → R x y H)
    ⟨Same.up hD, [], upd_same, rfl, fun j x y e e' => by simp at e'⟩ (fun i H _ h => hG H h.1) ?_ (fun H ⟨s, ys, h1, h2, h3⟩ => ?_)
  · rintro i v H H' hi ⟨s1, ys, h1, h2, h3⟩ hy
    have hxi : xs[i]? = some xs[i] := by simp [hx, hi]
    have hlen : ys.length ≤ 100000 := by
      have := List.length_filter_le pr (xs.take i)
      rw [List.length_take] at this
      omega
    have etk : (xs.take (i + 1)).filter pr = (xs.take i).filter pr ++ (if pr xs[i] = true then [xs[i]] else []) := by
      rw [List.take_add_one, hxi, List.filter_append]
      simp only [Option.toList]
      congr 1
      by_cases c : pr xs[i] = true
      · simp [c]
      · simp [c]
    refine hs i v xs[i] H H' ys _ _ hxi s1 h1 hy (fun hp y H4 s4 r4 => ?_) (fun hp H4 s4 => ?_)
    · have hD4 := s4 _ _ h1
      refine ⟨ys, hD4, Nat.lt_of_le_of_lt hlen (by decide), Same.up2 (s1.trans s4) hD, ys ++ [y], upd_same, by rw [etk, if_pos hp]; simp [h2], fun j x z e1 e2 => ?_⟩
      have up : ∀ {x z}, R x z H4 → R x z (upd H4 D (.lst (ys ++ [y]))) := fun {x z} r => hR x z H4 _ r fun b o hb e => by rw [upd_ne hb]; exact e
      rw [etk, if_pos hp] at e1
      by_cases hj : j < ys.length
      · rw [List.getElem?_append_left hj] at e2
        rw [List.getElem?_append_left (by omega)] at e1
        exact up (hR _ _ _ _ (h3 j x z e1 e2) fun b o _ q => s4 b o q)
      · rw [List.getElem?_append_right (by omega)] at e2
        rw [List.getElem?_append_right (by omega)] at e1
        have : j - ys.length = 0 := by
          have := (List.getElem?_eq_some_iff.mp e2).1
          simp at this
          omega
        rw [this] at e2
        rw [← h2, this] at e1
        cases e1
        cases e2
        exact up r4
    · refine ⟨s1.trans s4, ys, s4 _ _ h1, by rw [etk, if_neg (by simp [hp])]; simp [h2], fun j x z e1 e2 => ?_⟩
      rw [etk, if_neg (by simp [hp]), List.append_nil] at e1
      exact hR _ _ _ _ (h3 j x z e1 e2) fun b o _ q => s4 b o q
  · rw [← hx, List.take_length] at h2 h3
    exact hd H ys s h1 h2 h3
end
theorem foldl_take {α β : Type} {f : β → α → β} {a : β} {xs : List α} {i : Nat} {x : α} (h : xs[i]? = some x) : (xs.take (i + 1)).foldl f a = f ((xs.take i).foldl f a) x := by
  rw [List.take_add_one, h, List.foldl_append]
  rfl
/-! ### lists of tuples, of lists of ints -/
def LTups {α : Type} (f : α → List V) (H : Hp) (p : Addr) (xs : List α) : Prop := ∃ as : List Addr, H p = some (.lst (as.map V.ref)) ∧ Tups f H as xs
def Rows2 (H : Hp) (as : List Addr) (rs : List (List Int)) : Prop := as.length = rs.length ∧ ∀ (i : Nat) (r : List Int), rs[i]? = some r → ∃ p, as[i]? = some p ∧ H p = some (.lst (r.map V.int))
theorem Rows2.same {H H' : Hp} {as : List Addr} {rs : List (List Int)} (h : Rows2 H as rs) (s : Same H H') : Rows2 H' as rs :=
  ⟨h.1, fun i x e => let ⟨p, h1, h2⟩ := h.2 i x e; ⟨p, h1, s _ _ h2⟩⟩
theorem Rows2.get {H : Hp} {as : List Addr} {rs : List (List Int)} (h : Rows2 H as rs) {i : Nat} {r : List Int} (e : rs[i]? = some r) : ∃ p, (as.map V.ref)[i]? = some (.ref p) ∧ H p = some (.lst (r.map V.int)) := by
  obtain ⟨p, h1, h2⟩ := h.2 i r e
  exact ⟨p, by rw [List.getElem?_map, h1]; rfl, h2⟩
/-- a list of values that are references, by what stands at each -/
theorem refs_of {n : Nat} {ys : List V} (h : ys.length = n) (R : Nat → Addr → Prop) (hr : ∀ i y, ys[i]? = some y → ∃ p, y = .ref p ∧ R i p) : ∃ as : List Addr, ys = as.map V.ref ∧ as.length = n ∧ ∀ i p, as[i]? = some p → R i p := by
  induction ys generalizing n R with
  | nil => exact ⟨[], rfl, h, fun i p e => by simp at e⟩
  | cons y ys ih =>
    obtain ⟨p, rfl, hp⟩ := hr 0 y rfl
    obtain ⟨as, e, hl, ha⟩ := ih (n := ys.length) rfl (fun i p => R (i + 1) p) fun i z hz => hr (i + 1) z hz
    refine ⟨p :: as, by rw [e]; rfl, by rw [List.length_cons] at h ⊢; omega, fun i q hq => ?_⟩
    cases i with
    | zero => cases hq; exact hp
    | succ i => exact ha i q hq
section
variable {P : Program} {w : World} {K : PySem.W.Frag} {mg : Str → Option Value} {base : Heap} {ad : Str → Addr} {fd : Str → FuncData}
theorem T_kno (T : Tx K mg ad fd) : Binds K (fd "Task.kind_number") ["self", "kind_name"] [] := T.taskKindNumber.fn.binds fun _ _ _ _ _ _ us hl => match us, hl with | [_, _], _ => rfl
/-! ### Task.cost -/
theorem scCost : FnScope ["self", "kind_name"] ["self", "kind_name"] (defScope sTaskCost) := ⟨rfl, rfl, rfl, by decide +kernel, rfl, by decide +kernel, by decide +kernel⟩
def costM (t : Tk) (x : Str) : Int := (t.kinds.getD (kno t x) (Str.empty, 0, 0)).2.1
def spCost (ad : Str → Addr) : Sp := fun vs H Q _ => ∃ (a : Addr) (t : Tk) (x : Str), vs = [.ref a, .str x] ∧ TkAt ad H a t ∧ hasK t x ∧ ∀ H', Same H H' → Q (.int (costM t x)) H'
theorem ok_cost (T : Tx K mg ad fd) : FnOk P w K mg base CX0 2 (ad "Task.cost") (fd "Task.cost") ["self", "kind_name"] (spCost ad) := by
  refine T.taskCost.fn.ok scCost (fun vs H Q E h => ?_) (fun cdv A outer s H vs Q E hr h => ?_)
  · obtain ⟨a, t, x, rfl, _⟩ := h
    rfl
  · obtain ⟨a, t, x, rfl, ⟨dx, ka, wa, kas, was, O⟩, hx, q⟩ := h
    obtain ⟨k0, hk0, hk1, hk2⟩ := kno_spec hx
    refine ⟨_, pss_one (ps_ret (pe_ix ix_tup (pe_ix ix_tup (pe_fld (pv 0) rfl) (pe_meth (pv 0) T.taskInit.cl T.taskKindNumber.me (ok_kno T) hr (T_kno T) .nil pass0 (pa_cons (pv 1) pa_nil)) (fun _ _ => rfl)) pe_int (fun _ _ => rfl))), ?_⟩
    refine ⟨_, rfl, a, _, dx, _, _, rfl, O.ob, T.taskInit.cl, T.nTask_kinds, rfl, _, rfl, a, dx, _, rfl, O.ob, rfl, _, rfl, a, t, x, rfl, ⟨dx, ka, wa, kas, was, O⟩, hx, fun H1 s1 => ?_⟩
    obtain ⟨p, h1, h2⟩ := O.ks.2 _ _ hk0
    refine ⟨_, _, _, .ref p, rfl, rfl, SqT.of (s1 _ _ O.ko), atI_nat (by rw [List.getElem?_map, h1]; rfl), _, _, _, _, rfl, rfl, SqT.of (s1 _ _ h2), rfl, ?_⟩
    have e : costM t x = k0.2.1 := by unfold costM; rw [List.getD_eq_getElem?_getD, hk0]; rfl
    rw [e] at q
    exact q _ s1
/-! ### Task.ways_from -/
theorem scWf : FnScope ["self", "kind_name", "way"] ["self", "kind_name"] (defScope sTaskWaysFrom) := ⟨rfl, rfl, rfl, by decide +kernel, rfl, by decide +kernel, by decide +kernel⟩
def spWf (ad : Str → Addr) : Sp := fun vs H Q _ => ∃ (a : Addr) (t : Tk) (x : Str), vs = [.ref a, .str x] ∧ TkAt ad H a t ∧ hasK t x ∧ t.ways.length ≤ 1000 ∧ ∀ H' p, Same H H' → H p = none → LTups nxV H' p (waysFrom t x) → Q (.ref p) H'
theorem T_wf (T : Tx K mg ad fd) : Binds K (fd "Task.ways_from") ["self", "kind_name"] [] := T.taskWaysFrom.fn.binds fun _ _ _ _ _ _ us hl => match us, hl with | [_, _], _ => rfl
theorem ok_wf (T : Tx K mg ad fd) : FnOk P w K mg base CX0 2 (ad "Task.ways_from") (fd "Task.ways_from") ["self", "kind_name"] (spWf ad) := by
  refine T.taskWaysFrom.fn.ok scWf (fun vs H Q E h => ?_) (fun cdv A outer s H vs Q E hr h => ?_)
  · obtain ⟨a, t, x, rfl, _⟩ := h
    rfl
  · obtain ⟨a, t, x, rfl, ⟨dx, ka, wa, kas, was, O⟩, hx, hwl, q⟩ := h
    refine ⟨_, pss_cons (ps_expr (pe_meth (pv 0) T.taskInit.cl T.taskKindNumber.me (ok_kno T) hr (T_kno T) .nil pass0 (pa_cons (pv 1) pa_nil)))
      (pss_one (ps_ret (pe_lc (own := [("way", 2)]) (g := gName 2) rfl scWf.nd (pi_tup (pe_fld (pv 0) rfl)) (blkOk_by (own := [("way", 2)]) (N := ["self", "kind_name", "way"]) (sc := defScope sTaskWaysFrom) (by decide +kernel)) (fun _ _ _ _ _ => pg_name (i := 2) scWf.nd rfl (Or.inl rfl))
        (fun _ _ _ _ _ => pts_one (pt_cmpR op_eq (pe_ix (ixT K) (pv 2) pe_int (fun _ _ => rfl)) (pv 1) (nomark _)))
        (fun _ _ _ _ _ => pe_tup (pa_cons (pe_ix (ixT K) (pv 2) pe_int (fun _ _ => rfl)) (pa_cons (pe_ix (ixT K) (pv 2) pe_int (fun _ _ => rfl)) pa_nil)))))), ?_⟩
    refine ⟨_, rfl, a, dx, _, rfl, O.ob, rfl, _, rfl, a, t, x, rfl, ⟨dx, ka, wa, kas, was, O⟩, hx, fun H1 s1 => ?_⟩
    have O1 := O.same s1
    refine ⟨_, rfl, a, _, dx, _, _, rfl, O1.ob, T.taskInit.cl, T.nTask_ways, rfl, wa, rfl, ⟨_, SqT.of O1.wo⟩, fun D hD => ?_⟩
    refine lc_filt (walk_tup (a := wa) (xs := was.map V.ref)) t.ways (fun w => decide (w.1 = x)) (fun w v H' => ∃ p, v = .ref p ∧ H' p = some (.tup (nxV w.2)) ∧ p ≠ D) (fun w v H H' ⟨p, h1, h2, h3⟩ k => ⟨p, h1, k _ _ h3 h2, h3⟩) (by rw [List.length_map]; exact O.ws.1.symm)
      (by rw [List.length_map, O.ws.1]; omega) hD (fun H' s' => SqT.of (s' _ _ O1.wo)) ?_ ?_
    · rintro i v w H2 H3 acc Kc Kf hw s2 hD2 ⟨rfl, hv⟩ hc hf
      obtain ⟨p, w', rfl, hp, hw', hpt⟩ := (O1.ws.same s2).get hv
      rw [hw] at hw'
      cases hw'
      refine ⟨rfl, ⟨_, rfl, _, _, _, _, rfl, rfl, SqT.of hpt, rfl, _, rfl, rfl, _, rfl, ite2 (fun c => ?_) (fun c => ?_)⟩⟩
      · refine ⟨_, rfl, _, _, _, _, rfl, rfl, SqT.of hpt, rfl, _, rfl, _, _, _, _, rfl, rfl, SqT.of hpt, rfl, (by show 2 ≤ sizeLine; decide), fun u hu => ?_⟩
        have e : w.1 = x := by have := of_decide_eq_true c; injection this
        exact hc (decide_eq_true e) _ _ (Same.up hu) ⟨u, rfl, upd_same, (ne_of_none hD2 hu).symm⟩
      · have e : ¬ w.1 = x := fun z => c (decide_eq_true (by show V.str w.1 = V.str x; rw [z]))
        exact hf (decide_eq_false e) _ (Same.refl _)
    · intro H2 ys s2 h1 h2 h3
      refine q H2 D (s1.trans s2) (s1.free hD) ?_
      obtain ⟨as, e, hl, ha⟩ := refs_of h2 (fun i p => ∀ w, (t.ways.filter fun w => decide (w.1 = x))[i]? = some w → H2 p = some (.tup (nxV w.2))) fun i y hy => by
        have hi : i < (t.ways.filter fun w => decide (w.1 = x)).length := by rw [← h2]; exact (List.getElem?_eq_some_iff.mp hy).1
        obtain ⟨p, e1, e2, _⟩ := h3 i _ y (List.getElem?_eq_getElem hi) hy
        refine ⟨p, e1, fun w hw => ?_⟩
        rw [List.getElem?_eq_getElem hi] at hw
        cases hw
        exact e2
      refine ⟨as, by rw [← e]; exact h1, by rw [hl, waysFrom, List.length_map], fun i w hw => ?_⟩
      unfold waysFrom at hw
      rw [List.getElem?_map] at hw
      cases hf : (t.ways.filter fun w => decide (w.1 = x))[i]? with
      | none => rw [hf] at hw; cases hw
      | some w' =>
        rw [hf] at hw
        cases hw
        have hi : i < as.length := by rw [hl]; exact (List.getElem?_eq_some_iff.mp hf).1
        exact ⟨as[i], List.getElem?_eq_getElem hi, ha i _ (List.getElem?_eq_getElem hi) w' hf⟩
end
end Nl
set_option maxHeartbeats 4000000
namespace Nl
open PySem PySem.Spec PyProof.Rows L2
theorem small {n : Nat} (h : n ≤ 100000) : n < sizeLine := Nat.lt_of_le_of_lt h (by decide)
theorem waysFrom_mem {t : Tk} {x : Str} {w : Str × Int} (h : w ∈ waysFrom t x) : ∃ s, (s, w.1, w.2) ∈ t.ways := by
  obtain ⟨w', h1, h2⟩ := List.mem_map.mp h
  obtain ⟨s, a, b⟩ := w'
  exact ⟨s, by rw [← h2]; exact (List.mem_filter.mp h1).1⟩
theorem hasK_mem {t : Tk} {k : Kd} (h : k ∈ t.kinds) : hasK t k.1 := ⟨k, h, rfl⟩
section
variable {P : Program} {w : World} {K : PySem.W.Frag} {mg : Str → Option Value} {base : Heap} {ad : Str → Addr} {fd : Str → FuncData}
/-! ### best_continuation -/
theorem scBc : FnScope ["task", "name", "size", "found", "best", "target", "distance"] ["task", "name", "size", "found"] (defScope sBestContinuation) := ⟨rfl, rfl, rfl, by decide +kernel, rfl, by decide +kernel, by decide +kernel⟩
def spBc (ad : Str → Addr) : Sp := fun vs H Q _ => ∃ (a f : Addr) (t : Tk) (x : Str) (n : Nat) (ras : List Addr) (rs : List (List Int)), vs = [.ref a, .str x, .int (n : Nat), .ref f] ∧ TkAt ad H a t ∧ WfT t ∧ hasK t x ∧
  H f = some (.lst (ras.map V.ref)) ∧ Rows2 H ras rs ∧ rs.length = n ∧ (∀ r ∈ rs, r.length = t.kinds.length) ∧ ∀ H', Same H H' → Q (.int (bestCont t x (n : Nat) rs)) H'
theorem T_bc (T : Tx K mg ad fd) : Binds K (fd "best_continuation") ["task", "name", "size", "found"] [] := T.bestContinuation.fn.binds fun _ _ _ _ _ _ us hl => match us, hl with | [_, _, _, _], _ => rfl
theorem ok_bc (T : Tx K mg ad fd) : FnOk P w K mg base CX0 3 (ad "best_continuation") (fd "best_continuation") ["task", "name", "size", "found"] (spBc ad) := by
  refine T.bestContinuation.fn.ok scBc (fun vs H Q E h => ?_) (fun cdv A outer s H vs Q E hr h => ?_)
  · obtain ⟨a, f, t, x, n, ras, rs, rfl, _⟩ := h
    rfl
  · obtain ⟨a, f, t, x, n, ras, rs, rfl, ht, wf, hx, hf, hrs, hlen, hrow, q⟩ := h
    refine ⟨_, pss_cons (ps_set (i := 4) scBc.nd rfl (.inl rfl) pe_int)
      (pss_cons (ps_for PassesOwn.never rfl (pi_list (pe_meth (pv 0) T.taskInit.cl T.taskWaysFrom.me (ok_wf T) hr (T_wf T) .nil pass0 (pa_cons (pv 1) pa_nil))) (pg_tup rfl (pgs_cons (pg_name (i := 5) scBc.nd rfl (.inl rfl)) (pgs_cons (pg_name (i := 6) scBc.nd rfl (.inl rfl)) pgs_nil)))
        (pss_one (ps_if (pt_cmpR op_le (pv 6) (pv 2) (nomark _)) (pss_one (ps_set (i := 4) scBc.nd rfl (.inl rfl) (pe_callB (call_max2 rfl) (by rfl) T.b_max boot_max (pa_cons (pv 4) (pa_cons
          (pe_ix ix_list (pe_ix ix_list (pv 3) (pe_op op_sub (pv 2) (pv 6)) (fun _ _ => rfl)) (pe_meth (pv 0) T.taskInit.cl T.taskKindNumber.me (ok_kno T) (hr.mono (by decide)) (T_kno T) .nil pass0 (pa_cons (pv 5) pa_nil)) (fun _ _ => rfl)) pa_nil))))) pss_nil)))
      (pss_one (ps_ret (pv 4)))), ?_⟩
    obtain ⟨dx, ka, wa, kas, was, O⟩ := id ht
    refine ⟨_, rfl, a, dx, _, rfl, O.ob, rfl, _, rfl, a, t, x, rfl, ht, hx, Nat.le_trans wf.wlen (by decide), fun H1 p s1 hp ⟨as, hpl, hts⟩ => ?_⟩
    refine ⟨p, rfl, ⟨_, SqL.of hpl⟩, for_it (walk_list (a := p) (xs := as.map V.ref)) (fun i σ H' => Same H1 H' ∧ ∃ v5 v6, σ = [some (.ref a), some (.str x), some (.int (n : Nat)), some (.ref f), some (.int (((waysFrom t x).take i).foldl (fun best w => if w.2 ≤ ((n : Nat) : Int) then mx best ((rs.getD (((n : Nat) : Int) - w.2).toNat []).getD (kno t w.1) 0) else best) 0)), v5, v6])
      ⟨Same.refl _, none, none, rfl⟩ (fun i σ H' _ h => SqL.of (h.1 _ _ hpl)) ?_ ?_⟩
    · rintro i v σ H2 H3 hi ⟨s2, v5, v6, rfl⟩ ⟨rfl, ev⟩
      obtain ⟨u, y, rfl, hu, hy, hut⟩ := (hts.same s2).get ev
      have hstep := foldl_take (f := fun best (w : Str × Int) => if w.2 ≤ ((n : Nat) : Int) then mx best ((rs.getD (((n : Nat) : Int) - w.2).toNat []).getD (kno t w.1) 0) else best) (a := (0 : Int)) hy
      obtain ⟨src, hmem⟩ := waysFrom_mem (List.mem_of_getElem? hy)
      have hd := wf.dist _ hmem
      have hk := wf.tgt _ hmem
      refine ⟨_, _, rfl, SqT.of hut, rfl, _, _, rfl, _, _, rfl, rfl, ?_⟩
      refine ⟨_, rfl, _, rfl, _, _, rfl, rfl, _, rfl, ite2 (fun c => ?_) (fun c => ?_)⟩
      · have c' : y.2 ≤ ((n : Nat) : Int) := of_decide_eq_true c
        rw [if_pos c'] at hstep
        have hlt : (((n : Nat) : Int) - y.2).toNat < rs.length := by
          have h1 := hd.1
          simp only at h1
          omega
        obtain ⟨pr, hpr, hpo⟩ := (hrs.same (s1.trans s2)).get (List.getElem?_eq_getElem hlt)
        have hrl : (rs[(((n : Nat) : Int) - y.2).toNat]).length = t.kinds.length := hrow _ (List.getElem_mem hlt)
        have hkl : kno t y.1 < (rs[(((n : Nat) : Int) - y.2).toNat]).length := by rw [hrl]; exact kno_lt hk
        refine ⟨_, rfl, _, rfl, _, rfl, _, rfl, _, _, rfl, rfl, _, _, _, _, rfl, rfl, SqL.of (s2 _ _ (s1 _ _ hf)), at_of (j := (((n : Nat) : Int) - y.2).toNat) (by omega) hpr, _, rfl, a, dx, _, rfl, (s2 _ _ (s1 _ _ O.ob)), rfl, _, rfl,
          a, t, y.1, rfl, (ht.same (s1.trans s2)), hk, fun H4 s4 => ?_⟩
        refine ⟨_, _, _, .int (rs[(((n : Nat) : Int) - y.2).toNat])[kno t y.1], rfl, rfl, SqL.of (s4 _ _ hpo), atI_nat (by rw [List.getElem?_map, List.getElem?_eq_getElem hkl]; rfl), _, _, rfl, ?_⟩
        refine ⟨s2.trans s4, some (.str y.1), some (.int y.2), ?_⟩
        rw [hstep]
        have e1 : rs.getD (((n : Nat) : Int) - y.2).toNat [] = rs[(((n : Nat) : Int) - y.2).toNat] := by rw [List.getD_eq_getElem?_getD, List.getElem?_eq_getElem hlt]; rfl
        have e2 : (rs[(((n : Nat) : Int) - y.2).toNat]).getD (kno t y.1) 0 = (rs[(((n : Nat) : Int) - y.2).toNat])[kno t y.1] := by rw [List.getD_eq_getElem?_getD, List.getElem?_eq_getElem hkl]; rfl
        rw [e1, e2]
        rfl
      · have c' : ¬ y.2 ≤ ((n : Nat) : Int) := fun z => c (decide_eq_true z)
        rw [if_neg c'] at hstep
        exact ⟨s2, some (.str y.1), some (.int y.2), by rw [hstep]; rfl⟩
    · rintro σ H2 ⟨s2, v5, v6, rfl⟩
      rw [List.length_map, hts.1, List.take_length]
      exact ⟨_, rfl, q _ (s1.trans s2)⟩
end
end Nl
set_option maxHeartbeats 4000000
namespace Nl
open PySem PySem.Spec PyProof.Rows L2
theorem rowAt_get {t : Tk} {i : Nat} {k : Kd} {s : Int} {f : List (List Int)} (h : t.kinds[i]? = some k) : (rowAt t s f)[i]? = some (ownWork k s + bestCont t k.1 s f) := by
  unfold rowAt
  rw [List.getElem?_map, h]
  rfl
theorem Tups.at {α : Type} {f : α → List V} {H : Hp} {as : List Addr} {xs : List α} (h : Tups f H as xs) {i : Nat} {x : α} (e : xs[i]? = some x) : ∃ p, (as.map V.ref)[i]? = some (.ref p) ∧ H p = some (.tup (f x)) := by
  obtain ⟨p, h1, h2⟩ := h.2 i x e
  exact ⟨p, by rw [List.getElem?_map, h1]; rfl, h2⟩
theorem Rows2.snoc {H : Hp} {as : List Addr} {rs : List (List Int)} {p : Addr} {r : List Int} (h : Rows2 H as rs) (hp : H p = some (.lst (r.map V.int))) : Rows2 H (as ++ [p]) (rs ++ [r]) := by
  refine ⟨by simp [h.1], fun i x e => ?_⟩
  by_cases hi : i < rs.length
  · rw [List.getElem?_append_left hi] at e
    obtain ⟨q, h1, h2⟩ := h.2 i x e
    exact ⟨q, by rw [List.getElem?_append_left (by rw [h.1]; exact hi)]; exact h1, h2⟩
  · have hl := (List.getElem?_eq_some_iff.mp e).1
    rw [List.length_append, List.length_singleton] at hl
    have hi' : i = rs.length := by omega
    subst hi'
    rw [List.getElem?_append_right (Nat.le_refl _), Nat.sub_self] at e
    cases e
    exact ⟨p, by rw [← h.1, List.getElem?_append_right (Nat.le_refl _), Nat.sub_self]; rfl, hp⟩
theorem Rows2.keep {H H' : Hp} {as : List Addr} {rs : List (List Int)} {q : Addr} (h : Rows2 H as rs) (hq : ∀ p ∈ as, p ≠ q) (k : ∀ b o, b ≠ q → H b = some o → H' b = some o) : Rows2 H' as rs :=
  ⟨h.1, fun i x e => let ⟨p, h1, h2⟩ := h.2 i x e; ⟨p, h1, k _ _ (hq p (List.mem_of_getElem? h1)) h2⟩⟩
section
variable {P : Program} {w : World} {K : PySem.W.Frag} {mg : Str → Option Value} {base : Heap} {ad : Str → Addr} {fd : Str → FuncData}
theorem T_own (T : Tx K mg ad fd) : Binds K (fd "own_work") ["kind", "size"] [] := T.ownWork.fn.binds fun _ _ _ _ _ _ us hl => match us, hl with | [_, _], _ => rfl
/-! ### rows -/
theorem scRows : FnScope ["task", "length", "found", "size", "row", "kind"] ["task", "length"] (defScope sRows) := ⟨rfl, rfl, rfl, by decide +kernel, rfl, by decide +kernel, by decide +kernel⟩
def spRows (ad : Str → Addr) : Sp := fun vs H Q _ => ∃ (a : Addr) (t : Tk) (h : Nat), vs = [.ref a, .int (h : Nat)] ∧ TkAt ad H a t ∧ WfT t ∧ h ≤ 1000 ∧
  ∀ H' p ras, Same H H' → H p = none → H' p = some (.lst (ras.map V.ref)) → Rows2 H' ras (rowsN t (h + 1)) → (∀ b ∈ ras, H b = none) → Q (.ref p) H'
theorem T_rows (T : Tx K mg ad fd) : Binds K (fd "rows") ["task", "length"] [] := T.rows.fn.binds fun _ _ _ _ _ _ us hl => match us, hl with | [_, _], _ => rfl
theorem ok_rows (T : Tx K mg ad fd) : FnOk P w K mg base CX0 4 (ad "rows") (fd "rows") ["task", "length"] (spRows ad) := by
  refine T.rows.fn.ok scRows (fun vs H Q E h => ?_) (fun cdv A outer s H vs Q E hr h => ?_)
  · obtain ⟨a, t, h, rfl, _⟩ := h
    rfl
  · obtain ⟨a, t, h, rfl, ht, wf, hh, q⟩ := h
    refine ⟨_, pss_cons (ps_set (i := 2) scRows.nd rfl (.inl rfl) (pe_lst pa_nil))
      (pss_cons (ps_for PassesOwn.never rfl (pi_range1 (by rfl) T.b_range (pa_cons (pe_op op_add (pv 1) pe_int) pa_nil)) (pg_name (i := 3) scRows.nd rfl (.inl rfl))
        (pss_cons (ps_set (i := 4) scRows.nd rfl (.inl rfl) (pe_lst pa_nil))
        (pss_cons (ps_for PassesOwn.never rfl (pi_tup (pe_fld (pv 0) rfl)) (pg_name (i := 5) scRows.nd rfl (.inl rfl))
          (pss_one (ps_expr (pe_bm PySem.F.plainAttrs_list PySem.F.slot_list_append PySem.F.type_list_append mt_append (pv 4) (pa_cons (pe_op op_add
            (pe_call (ok_own T) (hr.mono (by decide)) (by rfl) T.ownWork.gl T.ownWork.fn.kp (T_own T) .nil pass0 (pa_cons (pv 5) (pa_cons (pv 3) pa_nil)))
            (pe_call (ok_bc T) hr (by rfl) T.bestContinuation.gl T.bestContinuation.fn.kp (T_bc T) .nil pass0 (pa_cons (pv 0) (pa_cons (pe_ix ix_tup (pv 5) pe_int (fun _ _ => rfl)) (pa_cons (pv 3) (pa_cons (pv 2) pa_nil)))))) pa_nil)))))
        (pss_one (ps_expr (pe_bm PySem.F.plainAttrs_list PySem.F.slot_list_append PySem.F.type_list_append mt_append (pv 2) (pa_cons (pv 4) pa_nil)))))))
      (pss_one (ps_ret (pv 2)))), ?_⟩
    refine ⟨(by show 0 ≤ sizeLine; decide), fun f hf => ?_⟩
    refine ⟨_, rfl, _, _, rfl, rfl, _, rfl, (by omega), (by omega), for_range (lo := 0) (n := ((h : Nat) + 1 : Int).toNat) (fun i σ H' => ∃ ras v3 v4 v5, Same H H' ∧ H' f = some (.lst (ras.map V.ref)) ∧ Rows2 H' ras (rowsN t i) ∧ (∀ p ∈ ras, H p = none ∧ p ≠ f) ∧ σ = [some (.ref a), some (.int (h : Nat)), some (.ref f), v3, v4, v5])
      ⟨[], none, none, none, Same.up hf, upd_same, ⟨rfl, fun i r e => by simp [rowsN] at e⟩, fun p hp => by simp at hp, rfl⟩ ?_ ?_⟩
    · rintro i σ H1 hi ⟨ras, v3, v4, v5, s1, hfo, hrs, hne, rfl⟩
      refine ⟨(by show 0 ≤ sizeLine; decide), fun r hrr => ?_⟩
      have hrf : f ≠ r := ne_of_none hfo hrr
      have hrH : H r = none := s1.free hrr
      have s2 : Same H1 (upd H1 r (.lst [])) := Same.up hrr
      obtain ⟨dx, ka, wa, kas, was, O⟩ := id (ht.same s1)
      have hlen0 : (rowsN t i).length = i := rowsN_len t i
      refine ⟨_, rfl, a, _, dx, _, _, rfl, s2 _ _ O.ob, T.taskInit.cl, T.nTask_kinds, rfl, ka, rfl, ⟨_, SqT.of (s2 _ _ O.ko)⟩, for_it (walk_tup (a := ka) (xs := kas.map V.ref)) (fun j σ H' => ∃ v5, Same H1 H' ∧ H' r = some (.lst (((rowAt t (i : Nat) (rowsN t i)).take j).map V.int)) ∧ σ = [some (.ref a), some (.int (h : Nat)), some (.ref f), some (.int (0 + (i : Nat))), some (.ref r), v5])
        ⟨v5, s2, upd_same, rfl⟩ (fun j σ H' _ ⟨_, s3, _⟩ => SqT.of (s3 _ _ O.ko)) ?_ ?_⟩
      · rintro j v σ H2 H3 hj ⟨v5', s3, hro, rfl⟩ ⟨rfl, hv⟩
        obtain ⟨p, k, rfl, hp, hk, hpt⟩ := (O.ks.same s3).get hv
        have e0 : V.int (0 + (i : Nat)) = V.int ((i : Nat) : Int) := by rw [Int.zero_add]
        refine ⟨_, rfl, .inl ⟨rfl, _, SqL.of hro⟩, _, rfl, _, rfl, p, k, ((i : Nat) : Int), (by rw [e0]; rfl), hpt, ?_⟩
        refine ⟨_, rfl, _, rfl, _, _, _, _, rfl, rfl, SqT.of hpt, rfl, _, rfl, _, rfl, a, f, t, k.1, i, ras, rowsN t i, (by rw [e0]; rfl), (ht.same s1).same s3, wf, hasK_mem (List.mem_of_getElem? hk), s3 _ _ hfo, hrs.same s3, rowsN_len t i, rowsN_row t i, fun H4 s4 => ?_⟩
        refine ⟨_, _, rfl, rfl, r, _, _, rfl, rfl, s4 _ _ hro, small ?_, ?_⟩
        · rw [List.length_map, List.length_take]
          have := wf.len
          rw [rowAt_len]
          omega
        · refine ⟨_, Same.up2 (s3.trans s4) hrr, ?_, rfl⟩
          rw [upd_same, List.take_add_one, rowAt_get hk]
          simp
      · rintro σ H2 ⟨v5', s3, hro, rfl⟩
        rw [List.length_map, O.ks.1, ← rowAt_len t (i : Nat) (rowsN t i), List.take_length] at hro
        have hl : ras.length = i := by rw [hrs.1, rowsN_len]
        refine ⟨_, rfl, .inl ⟨rfl, _, SqL.of (s3 _ _ hfo)⟩, _, rfl, f, _, _, rfl, rfl, s3 _ _ hfo, small (by rw [List.length_map, hl]; omega), ?_⟩
        refine ⟨ras ++ [r], _, _, _, Same.up2 (s1.trans s3) hf, (by rw [upd_same, List.map_append]; rfl), ?_, fun p hp => ?_, rfl⟩
        · show Rows2 _ _ (rowsN t i ++ [rowAt t i (rowsN t i)])
          refine Rows2.snoc (Rows2.keep (hrs.same s3) (fun p hp => (hne p hp).2) fun b o hb e => by rw [upd_ne hb]; exact e) ?_
          rw [upd_ne hrf.symm]
          exact hro
        · rcases List.mem_append.mp hp with hp | hp
          · exact hne p hp
          · rw [List.mem_singleton.mp hp]
            exact ⟨hrH, hrf.symm⟩
    · rintro σ H1 ⟨ras, v3, v4, v5, s1, hfo, hrs, hne, rfl⟩
      have e : ((h : Nat) + 1 : Int).toNat = h + 1 := by omega
      rw [e] at hrs
      exact ⟨_, rfl, q H1 f ras s1 hf hfo hrs (fun b hb => (hne b hb).1)⟩
/-! ### demands -/
theorem scDem : FnScope ["task", "length", "row"] ["task", "length"] (defScope sDemands) := ⟨rfl, rfl, rfl, by decide +kernel, rfl, by decide +kernel, by decide +kernel⟩
def demN (t : Tk) (n : Nat) : List Int := (rowsN t n).map maxL
def spDem (ad : Str → Addr) : Sp := fun vs H Q _ => ∃ (a : Addr) (t : Tk) (h : Nat), vs = [.ref a, .int (h : Nat)] ∧ TkAt ad H a t ∧ WfT t ∧ h ≤ 1000 ∧
  ∀ H' p, Same H H' → H p = none → H' p = some (.lst ((demN t (h + 1)).map V.int)) → Q (.ref p) H'
theorem T_dem (T : Tx K mg ad fd) : Binds K (fd "demands") ["task", "length"] [] := T.demands.fn.binds fun _ _ _ _ _ _ us hl => match us, hl with | [_, _], _ => rfl
theorem list_ext_int {ys : List V} {zs : List Int} (h : ys.length = zs.length) (e : ∀ (i : Nat) (y : V), ys[i]? = some y → ∃ z, zs[i]? = some z ∧ y = .int z) : ys = zs.map V.int := by
  apply List.ext_getElem?
  intro i
  rw [List.getElem?_map]
  cases hy : ys[i]? with
  | none =>
    have : zs[i]? = none := by
      rw [List.getElem?_eq_none_iff] at hy ⊢
      omega
    rw [this]; rfl
  | some y =>
    obtain ⟨z, h1, h2⟩ := e i y hy
    rw [h1, h2]; rfl
theorem ok_dem (T : Tx K mg ad fd) : FnOk P w K mg base CX0 5 (ad "demands") (fd "demands") ["task", "length"] (spDem ad) := by
  refine T.demands.fn.ok scDem (fun vs H Q E h => ?_) (fun cdv A outer s H vs Q E hr h => ?_)
  · obtain ⟨a, t, h, rfl, _⟩ := h
    rfl
  · obtain ⟨a, t, h, rfl, ht, wf, hh, q⟩ := h
    refine ⟨_, pss_one (ps_ret (pe_lc (own := [("row", 2)]) (g := gName 2) (tt := tYes) rfl scDem.nd (pi_list (pe_call (ok_rows T) hr (by rfl) T.rows.gl T.rows.fn.kp (T_rows T) .nil pass0 (pa_cons (pv 0) (pa_cons (pv 1) pa_nil))))
      (blkOk_by (own := [("row", 2)]) (N := ["task", "length", "row"]) (sc := defScope sDemands) (by decide +kernel)) (fun _ _ _ _ _ => pg_name (i := 2) scDem.nd rfl (Or.inl rfl)) (fun _ _ _ _ _ => pts_nil)
      (fun _ _ _ _ _ => pe_callB (cr_maxK K rfl) (by rfl) T.b_max boot_max (pa_cons (pv 2) pa_nil)))), ?_⟩
    refine ⟨_, rfl, _, rfl, a, t, h, rfl, ht, wf, hh, fun H1 p ras s1 hp hpo hrs _ => ?_⟩
    have hl : (ras.map V.ref).length = h + 1 := by rw [List.length_map, hrs.1, rowsN_len]
    refine ⟨p, rfl, ⟨_, SqL.of hpo⟩, fun D hD => lc_same (walk_list (a := p) (xs := ras.map V.ref)) (fun i v H' => ∃ r, (rowsN t (h + 1))[i]? = some r ∧ v = .int (maxL r)) (fun _ _ _ _ h _ => h) (by rw [hl]; omega) hD (fun H' s' => SqL.of (s' _ _ hpo)) ?_ ?_⟩
    · rintro i v H2 H3 acc Kc hi s2 hD2 ⟨rfl, hv⟩ hc
      have hir : i < (rowsN t (h + 1)).length := by rw [rowsN_len, ← hl]; exact hi
      obtain ⟨pr, h1, h2⟩ := (hrs.same s2).get (List.getElem?_eq_getElem hir)
      rw [hv] at h1
      cases h1
      have hrl := rowsN_row t (h + 1) _ (List.getElem_mem hir)
      exact ⟨rfl, _, rfl, pr, _, rfl, SqL.of h2, (by rw [hrl]; exact wf.ne), fun m hm hle => hc _ _ (Same.refl _) ⟨_, List.getElem?_eq_getElem hir, by rw [maxL_eq hm hle]⟩⟩
    · intro H2 ys s2 h1 h2 h3
      refine q H2 D (s1.trans s2) (s1.free hD) ?_
      rw [h1]
      have : ys = (demN t (h + 1)).map V.int := list_ext_int (by rw [h2, hl, demN, List.length_map, rowsN_len]) fun i y hy => by
        obtain ⟨r, e1, e2⟩ := h3 i y hy
        exact ⟨maxL r, by unfold demN; rw [List.getElem?_map, e1]; rfl, e2⟩
      rw [this]
end
end Nl
set_option maxHeartbeats 4000000
namespace Nl
open PySem PySem.Spec PyProof.Rows L2
theorem ixN_nat {n j : Nat} (h : j < n) : ixN n (j : Int) = some j := by
  unfold ixN
  rw [if_pos (by omega), if_pos (by omega)]
  simp
/-! ### systems -/
abbrev syF (ta tb : Addr) : List (Str × V) := [("tasks", .ref ta), ("table", .ref tb)]
structure SyO (ad : Str → Addr) (H : Hp) (a dx ta tb : Addr) (tas : List Addr) (ts : List Tk) (tbl : List Int) : Prop where
  ob : H a = some (.ins (ad "System") dx (syF ta tb))
  to : H ta = some (.tup (tas.map V.ref))
  bo : H tb = some (.tup (tbl.map V.int))
  len : tas.length = ts.length
  ks : ∀ (i : Nat) (t : Tk), ts[i]? = some t → ∃ p, tas[i]? = some p ∧ TkAt ad H p t
def SyAt (ad : Str → Addr) (H : Hp) (a : Addr) (ts : List Tk) (tbl : List Int) : Prop := ∃ dx ta tb tas, SyO ad H a dx ta tb tas ts tbl
theorem SyO.same {ad : Str → Addr} {H H' : Hp} {a dx ta tb : Addr} {tas : List Addr} {ts : List Tk} {tbl : List Int} (h : SyO ad H a dx ta tb tas ts tbl) (s : Same H H') : SyO ad H' a dx ta tb tas ts tbl :=
  ⟨s _ _ h.ob, s _ _ h.to, s _ _ h.bo, h.len, fun i t e => let ⟨p, h1, h2⟩ := h.ks i t e; ⟨p, h1, h2.same s⟩⟩
theorem SyAt.same {ad : Str → Addr} {H H' : Hp} {a : Addr} {ts : List Tk} {tbl : List Int} (h : SyAt ad H a ts tbl) (s : Same H H') : SyAt ad H' a ts tbl := by
  obtain ⟨dx, ta, tb, tas, h⟩ := h
  exact ⟨dx, ta, tb, tas, h.same s⟩
theorem SyO.at {ad : Str → Addr} {H : Hp} {a dx ta tb : Addr} {tas : List Addr} {ts : List Tk} {tbl : List Int} (h : SyO ad H a dx ta tb tas ts tbl) {i : Nat} {v : V} (e : (tas.map V.ref)[i]? = some v) : ∃ p t, v = .ref p ∧ ts[i]? = some t ∧ TkAt ad H p t := by
  rw [List.getElem?_map] at e
  cases ea : tas[i]? with
  | none => rw [ea] at e; cases e
  | some p =>
    rw [ea] at e
    have hi : i < ts.length := by rw [← h.len]; exact (List.getElem?_eq_some_iff.mp ea).1
    obtain ⟨q, h1, h2⟩ := h.ks i ts[i] (by simp [hi])
    rw [ea] at h1
    cases h1
    exact ⟨p, ts[i], (Option.some.inj e).symm, by simp [hi], h2⟩
/-! ### the sums -/
def mixL (j : Nat) (tot dem : List Int) : List Int := tot.mapIdx fun i x => if i < j then x + dem.getD i 0 else x
def sysN (ts : List Tk) (n : Nat) : List Int := ts.foldl (fun tot t => addL tot (demN t n)) (List.replicate n 0)
theorem mixL_zero (tot dem : List Int) : mixL 0 tot dem = tot := by
  apply List.ext_getElem?
  intro i
  unfold mixL
  rw [List.getElem?_mapIdx]
  cases tot[i]? <;> simp
theorem mixL_len (j : Nat) (tot dem : List Int) : (mixL j tot dem).length = tot.length := by simp [mixL]
theorem mixL_all {j : Nat} {tot dem : List Int} (h : tot.length ≤ j) : mixL j tot dem = addL tot dem := by
  apply List.ext_getElem?
  intro i
  unfold mixL addL
  rw [List.getElem?_mapIdx, List.getElem?_mapIdx]
  cases e : tot[i]? with
  | none => rfl
  | some x =>
    have := (List.getElem?_eq_some_iff.mp e).1
    simp [show i < j by omega]
theorem mixL_at {j : Nat} {tot dem : List Int} {x : Int} (h : tot[j]? = some x) : (mixL j tot dem)[j]? = some x := by
  unfold mixL
  rw [List.getElem?_mapIdx, h]
  simp
theorem mixL_set {j : Nat} {tot dem : List Int} {x y : Int} (h : tot[j]? = some x) (hy : dem[j]? = some y) : (mixL j tot dem).set j (x + y) = mixL (j + 1) tot dem := by
  apply List.ext_getElem?
  intro i
  have hj := (List.getElem?_eq_some_iff.mp h).1
  by_cases e : i = j
  · subst e
    rw [List.getElem?_set_self (by rw [mixL_len]; exact hj)]
    unfold mixL
    rw [List.getElem?_mapIdx, h]
    simp [hy]
  · rw [List.getElem?_set_ne (Ne.symm e)]
    unfold mixL
    rw [List.getElem?_mapIdx, List.getElem?_mapIdx]
    cases tot[i]? with
    | none => rfl
    | some z =>
      by_cases c : i < j
      · simp [c, show i < j + 1 by omega]
      · simp [c, show ¬ i < j + 1 by omega]
theorem addL_len (a b : List Int) : (addL a b).length = a.length := by simp [addL]
theorem sysN_fold_len (n : Nat) : ∀ (ts : List Tk) (tot : List Int), (ts.foldl (fun tot t => addL tot (demN t n)) tot).length = tot.length
  | [], tot => rfl
  | t :: ts, tot => by
    show (ts.foldl _ (addL tot (demN t n))).length = _
    rw [sysN_fold_len n ts, addL_len]
theorem sysN_len (ts : List Tk) (n : Nat) : (sysN ts n).length = n := by
  unfold sysN
  rw [sysN_fold_len, List.length_replicate]
section
variable {P : Program} {w : World} {K : PySem.W.Frag} {mg : Str → Option Value} {base : Heap} {ad : Str → Addr} {fd : Str → FuncData}
/-! ### system_demands -/
theorem scSd : FnScope ["system", "length", "totals", "task", "size", "work", "_"] ["system", "length"] (defScope sSystemDemands) := ⟨rfl, rfl, rfl, by decide +kernel, rfl, by decide +kernel, by decide +kernel⟩
def spSd (ad : Str → Addr) : Sp := fun vs H Q _ => ∃ (a : Addr) (ts : List Tk) (tbl : List Int) (h : Nat), vs = [.ref a, .int (h : Nat)] ∧ SyAt ad H a ts tbl ∧ (∀ t ∈ ts, WfT t) ∧ h ≤ 1000 ∧ ts.length ≤ 100 ∧
  ∀ H' p, Same H H' → H p = none → H' p = some (.lst ((sysN ts (h + 1)).map V.int)) → Q (.ref p) H'
theorem T_sd (T : Tx K mg ad fd) : Binds K (fd "system_demands") ["system", "length"] [] := T.systemDemands.fn.binds fun _ _ _ _ _ _ us hl => match us, hl with | [_, _], _ => rfl
theorem ok_sd (T : Tx K mg ad fd) : FnOk P w K mg base CX0 6 (ad "system_demands") (fd "system_demands") ["system", "length"] (spSd ad) := by
  refine T.systemDemands.fn.ok scSd (fun vs H Q E h => ?_) (fun cdv A outer s H vs Q E hr h => ?_)
  · obtain ⟨a, t, tbl, h, rfl, _⟩ := h
    rfl
  · obtain ⟨a, ts, tbl, h, rfl, hs, wf, hh, hts, q⟩ := h
    obtain ⟨dx, ta, tb, tas, O⟩ := id hs
    refine ⟨_, pss_cons (ps_setLc (i := 2) (own := [("_", 6)]) (g := gName 6) (tt := tYes) rfl scSd.nd rfl rfl (sw_true rfl rfl rfl (by decide +kernel)) (pi_range1 (by rfl) T.b_range (pa_cons (pe_op op_add (pv 1) pe_int) pa_nil))
        (blkOk_by (own := [("_", 6)]) (N := ["system", "length", "totals", "task", "size", "work", "_"]) (sc := defScope sSystemDemands) (by decide +kernel)) (fun _ _ _ _ _ => pg_name (i := 6) scSd.nd rfl (Or.inl rfl)) (fun _ _ _ _ _ => pts_nil) (fun _ _ _ _ _ => pe_int))
      (pss_cons (ps_for PassesOwn.never rfl (pi_tup (pe_fld (pv 0) rfl)) (pg_name (i := 3) scSd.nd rfl (.inl rfl))
        (pss_one (ps_for PassesOwn.never rfl (pi_enum (by rfl) T.b_enumerate (pa_cons (pe_call (ok_dem T) hr (by rfl) T.demands.gl T.demands.fn.kp (T_dem T) .nil pass0 (pa_cons (pv 3) (pa_cons (pv 1) pa_nil))) pa_nil)) (pg_tup rfl (pgs_cons (pg_name (i := 4) scSd.nd rfl (.inl rfl)) (pgs_cons (pg_name (i := 5) scSd.nd rfl (.inl rfl)) pgs_nil)))
          (pss_one (ps_augS (pv 2) (pv 4) get_list (pv 5) ip_add set_list)))))
      (pss_one (ps_ret (pv 2)))), ?_⟩
    refine ⟨_, rfl, _, _, rfl, rfl, _, rfl, (by omega), (by omega), fun D hD => lc_same (walk_range (lo := 0) (n := ((h : Nat) + 1 : Int).toNat)) (fun i v H' => v = .int 0) (fun _ _ _ _ h _ => h) (by omega) hD (fun _ _ => trivial) ?_ ?_⟩
    · rintro i v H2 H3 acc Kc hi s2 hD2 ⟨rfl, rfl⟩ hc
      exact ⟨rfl, hc _ _ (Same.refl _) rfl⟩
    · intro H1 ys s1 h1 h2 h3
      have e0 : ys = (List.replicate (h + 1) (0 : Int)).map V.int := list_ext_int (by rw [h2, List.length_replicate]; omega) fun i y hy => ⟨0, by
        have := (List.getElem?_eq_some_iff.mp hy).1
        rw [List.getElem?_replicate, if_pos (by omega)], h3 i y hy⟩
      rw [e0] at h1
      refine ⟨_, rfl, a, _, dx, _, _, rfl, s1 _ _ O.ob, T.systemInit.cl, T.nSystem_tasks, rfl, ta, rfl, ⟨_, SqT.of (s1 _ _ O.to)⟩, for_it (walk_tup (a := ta) (xs := tas.map V.ref)) (fun i σ H' => ∃ v3 v4 v5, Same H H' ∧ H' D = some (.lst (((ts.take i).foldl (fun tot t => addL tot (demN t (h + 1))) (List.replicate (h + 1) 0)).map V.int)) ∧ σ = [some (.ref a), some (.int (h : Nat)), some (.ref D), v3, v4, v5, none])
        ⟨none, none, none, s1, h1, rfl⟩ (fun i σ H' _ ⟨_, _, _, s', _⟩ => SqT.of (s' _ _ O.to)) ?_ ?_⟩
      · rintro i v σ H2 H3 hi ⟨v3, v4, v5, s2, hDo, rfl⟩ ⟨rfl, hv⟩
        obtain ⟨p, t, rfl, ht, htk⟩ := (O.same s2).at hv
        have hstep := foldl_take (f := fun tot t => addL tot (demN t (h + 1))) (a := List.replicate (h + 1) (0 : Int)) ht
        generalize htot : (ts.take i).foldl (fun tot t => addL tot (demN t (h + 1))) (List.replicate (h + 1) 0) = tot at hDo hstep
        have htl : tot.length = h + 1 := by rw [← htot, sysN_fold_len, List.length_replicate]
        refine ⟨_, rfl, _, rfl, p, t, h, rfl, htk, wf t (List.mem_of_getElem? ht), hh, fun H4 l s4 hl hlo => ?_⟩
        have hdl : (demN t (h + 1)).length = h + 1 := by rw [demN, List.length_map, rowsN_len]
        refine ⟨l, _, rfl, SqL.of hlo, for_it (walk_enum (a := l) (xs := (demN t (h + 1)).map V.int)) (fun j σ H' => ∃ v4 v5, Same H H' ∧ H' l = some (.lst ((demN t (h + 1)).map V.int)) ∧ H' D = some (.lst ((mixL j tot (demN t (h + 1))).map V.int)) ∧ σ = [some (.ref a), some (.int (h : Nat)), some (.ref D), some (.ref p), v4, v5, none])
          ⟨v4, v5, s2.trans s4, hlo, by rw [mixL_zero]; exact s4 _ _ hDo, rfl⟩ (fun j σ H' _ ⟨_, _, _, h', _⟩ => SqL.of h') ?_ ?_⟩
        · rintro j v σ H5 H6 hj ⟨v4', v5', s5, hlo5, hD5, rfl⟩ ⟨U, y, z, rfl, hU, rfl, ey, ez⟩
          have hjl : j < h + 1 := by rw [List.length_map, hdl] at hj; exact hj
          have hjd : (demN t (h + 1))[j]? = some (demN t (h + 1))[j] := List.getElem?_eq_getElem (by rw [hdl]; exact hjl)
          have hjt : tot[j]? = some tot[j] := List.getElem?_eq_getElem (by rw [htl]; exact hjl)
          have ez : ((demN t (h + 1)).map V.int)[j]? = some z := ez
          rw [List.getElem?_map, hjd] at ez
          cases ey
          cases ez
          have s6 : Same H5 (upd H5 U (.tup [.int (j : Nat), .int (demN t (h + 1))[j]])) := Same.up hU
          have hlD : l ≠ D := (ne_of_none hDo hl).symm
          refine ⟨_, _, rfl, SqT.of upd_same, rfl, _, _, rfl, _, _, rfl, rfl, ?_⟩
          refine ⟨_, rfl, _, rfl, D, _, j, .int tot[j], rfl, rfl, SqL.of (s6 _ _ hD5), (by rw [List.getElem?_map, mixL_at hjt]; rfl), _, rfl, _, _, rfl, rfl, D, _, _, j, rfl, rfl, s6 _ _ hD5, ixN_nat (by rw [List.length_map, mixL_len, htl]; exact hjl), ?_⟩
          refine ⟨_, _, Same.up2 (s5.trans s6) hD, (by rw [upd_ne hlD]; exact s6 _ _ hlo5), ?_, rfl⟩
          rw [upd_same, ← List.map_set, mixL_set hjt hjd]
        · rintro σ H5 ⟨v4', v5', s5, hlo5, hD5, rfl⟩
          rw [List.length_map, mixL_all (by rw [htl, hdl]; exact Nat.le_refl _)] at hD5
          exact ⟨_, v4', v5', s5, by rw [hstep]; exact hD5, rfl⟩
      · rintro σ H2 ⟨v3, v4, v5, s2, hDo, rfl⟩
        rw [List.length_map, O.len, List.take_length] at hDo
        exact ⟨_, rfl, q H2 D s2 hD hDo⟩
end
end Nl
set_option maxHeartbeats 4000000
namespace Nl
open PySem PySem.Spec PyProof.Rows L2
def supF (tbl : List Int) (n : Nat) : Int := (n / tbl.length : Nat) * tbl.sum + (tbl.take (n % tbl.length)).sum
def supM (tbl : List Int) (s e : Nat) : Int := if e ≤ s then 0 else supF tbl e - supF tbl s
/-- some window is overfull -/
def OvAt (ts : List Tk) (tbl : List Int) (h e s : Nat) : Prop := supM tbl s e < (sysN ts (h + 1)).getD (e - s) 0
def Ov (ts : List Tk) (tbl : List Int) (h : Nat) : Prop := ∃ e s : Nat, 1 ≤ e ∧ e ≤ h ∧ s < e ∧ s < tbl.length ∧ OvAt ts tbl h e s
theorem cutV_to {xs : List V} {k : Nat} (h : k < xs.length) : cutV xs none (some (k : Int)) = xs.take k := by
  unfold cutV
  rw [HT.sIx_none, HT.sIx_nat, List.drop_zero, Nat.sub_zero, Nat.min_eq_left (Nat.le_of_lt h)]
section
variable {P : Program} {w : World} {K : PySem.W.Frag} {mg : Str → Option Value} {base : Heap} {ad : Str → Addr} {fd : Str → FuncData}
/-! ### supply_of_first -/
theorem scSf : FnScope ["table", "slots", "rounds", "rest"] ["table", "slots"] (defScope sSupplyOfFirst) := ⟨rfl, rfl, rfl, by decide +kernel, rfl, by decide +kernel, by decide +kernel⟩
def spSf : Sp := fun vs H Q _ => ∃ (b : Addr) (tbl : List Int) (n : Nat), vs = [.ref b, .int (n : Nat)] ∧ H b = some (.tup (tbl.map V.int)) ∧ 1 ≤ tbl.length ∧ tbl.length ≤ 1001 ∧ n ≤ 100000 ∧ ∀ H', Same H H' → Q (.int (supF tbl n)) H'
theorem T_sf (T : Tx K mg ad fd) : Binds K (fd "supply_of_first") ["table", "slots"] [] := T.supplyOfFirst.fn.binds fun _ _ _ _ _ _ us hl => match us, hl with | [_, _], _ => rfl
theorem ok_sf (T : Tx K mg ad fd) : FnOk P w K mg base CX0 1 (ad "supply_of_first") (fd "supply_of_first") ["table", "slots"] spSf := by
  refine T.supplyOfFirst.fn.ok scSf (fun vs H Q E h => ?_) (fun cdv A outer s H vs Q E hr h => ?_)
  · obtain ⟨b, tbl, n, rfl, _⟩ := h
    rfl
  · obtain ⟨b, tbl, n, rfl, hb, h1, h2, hn, q⟩ := h
    refine ⟨_, pss_cons (ps_asg (pe_callB call_divmod (by rfl) T.b_divmod boot_divmod (pa_cons (pv 1) (pa_cons (pe_callB call_len_seq (by rfl) T.b_len PySem.boot_len (pa_cons (pv 0) pa_nil)) pa_nil))) (pg_tup rfl (pgs_cons (pg_name (i := 2) scSf.nd rfl (.inl rfl)) (pgs_cons (pg_name (i := 3) scSf.nd rfl (.inl rfl)) pgs_nil))))
      (pss_one (ps_ret (pe_op op_add (pe_op op_mul (pv 2) (pe_callB (cr_sumT rfl) (by rfl) T.b_sum boot_sum (pa_cons (pv 0) pa_nil))) (pe_callB (cr_sumT rfl) (by rfl) T.b_sum boot_sum (pa_cons (pe_slice sl_tup (pv 0) po_none (po_some (pv 3))) pa_nil))))), ?_⟩
    refine ⟨_, rfl, _, rfl, b, _, rfl, .inr (SqT.of hb), _, _, rfl, ⟨?_, ?_⟩, fun p hp => ?_⟩
    · rw [List.length_map]; omega
    · rw [List.length_map]; omega
    · have s1 : Same H (upd H p (.tup [.int ((n : Int) / ((tbl.map V.int).length : Nat)), .int ((n : Int) % ((tbl.map V.int).length : Nat))])) := Same.up hp
      have e1 : (n : Int) / ((tbl.map V.int).length : Nat) = ((n / tbl.length : Nat) : Int) := by rw [List.length_map]; rfl
      have e2 : (n : Int) % ((tbl.map V.int).length : Nat) = ((n % tbl.length : Nat) : Int) := by rw [List.length_map]; rfl
      have hq : n / tbl.length ≤ 100000 := Nat.le_trans (Nat.div_le_self _ _) hn
      have hm : n % tbl.length < tbl.length := Nat.mod_lt _ h1
      rw [e1, e2] at s1 ⊢
      refine ⟨p, _, rfl, SqT.of upd_same, rfl, _, _, rfl, _, _, rfl, rfl, ?_⟩
      refine ⟨_, rfl, _, rfl, b, tbl, rfl, SqT.of (s1 _ _ hb), _, _, rfl, rfl, .inl ⟨Int.lt_of_lt_of_le (by decide) (Int.natCast_nonneg _), Int.lt_of_le_of_lt (Int.ofNat_le.mpr hq) (by decide)⟩, ?_⟩
      refine ⟨_, rfl, _, rfl, _, rfl, b, _, rfl, SqT.of (s1 _ _ hb), ?_, fun p2 hp2 => ?_⟩
      · rw [HT.sIx_none, HT.sIx_nat, List.length_map]
        omega
      · rw [cutV_to (by rw [List.length_map]; exact hm), ← List.map_take]
        exact ⟨p2, _, rfl, SqT.of upd_same, _, _, rfl, rfl, q _ (s1.trans (Same.up hp2))⟩
/-! ### supply -/
theorem scSu : FnScope ["table", "start", "end"] ["table", "start", "end"] (defScope sSupply) := ⟨rfl, rfl, rfl, by decide +kernel, rfl, by decide +kernel, by decide +kernel⟩
def spSu : Sp := fun vs H Q _ => ∃ (b : Addr) (tbl : List Int) (s e : Nat), vs = [.ref b, .int (s : Nat), .int (e : Nat)] ∧ H b = some (.tup (tbl.map V.int)) ∧ 1 ≤ tbl.length ∧ tbl.length ≤ 1001 ∧ s ≤ 100000 ∧ e ≤ 100000 ∧ ∀ H', Same H H' → Q (.int (supM tbl s e)) H'
theorem T_su (T : Tx K mg ad fd) : Binds K (fd "supply") ["table", "start", "end"] [] := T.supply.fn.binds fun _ _ _ _ _ _ us hl => match us, hl with | [_, _, _], _ => rfl
theorem ok_su (T : Tx K mg ad fd) : FnOk P w K mg base CX0 2 (ad "supply") (fd "supply") ["table", "start", "end"] spSu := by
  refine T.supply.fn.ok scSu (fun vs H Q E h => ?_) (fun cdv A outer st H vs Q E hr h => ?_)
  · obtain ⟨b, tbl, s, e, rfl, _⟩ := h
    rfl
  · obtain ⟨b, tbl, s, e, rfl, hb, h1, h2, hs, he, q⟩ := h
    refine ⟨_, pss_cons (ps_if (pt_cmpR op_le (pv 2) (pv 1) (nomark _)) (pss_one (ps_ret pe_int)) pss_nil)
      (pss_one (ps_ret (pe_op op_sub (pe_call (ok_sf T) hr (by rfl) T.supplyOfFirst.gl T.supplyOfFirst.fn.kp (T_sf T) .nil pass0 (pa_cons (pv 0) (pa_cons (pv 2) pa_nil))) (pe_call (ok_sf T) hr (by rfl) T.supplyOfFirst.gl T.supplyOfFirst.fn.kp (T_sf T) .nil pass0 (pa_cons (pv 0) (pa_cons (pv 1) pa_nil)))))), ?_⟩
    refine ⟨_, rfl, _, rfl, _, _, rfl, rfl, _, rfl, ite2 (fun c => ?_) (fun c => ?_)⟩
    · have c' : (e : Int) ≤ s := of_decide_eq_true c
      have z := q H (Same.refl H)
      rw [show supM tbl s e = 0 from if_pos (by omega)] at z
      exact z
    · have c' : ¬ (e : Int) ≤ s := fun z => c (decide_eq_true z)
      refine ⟨_, rfl, _, rfl, b, tbl, e, rfl, hb, h1, h2, he, fun H1 s1 => ?_⟩
      refine ⟨_, rfl, _, rfl, b, tbl, s, rfl, s1 _ _ hb, h1, h2, hs, fun H2 s2 => ?_⟩
      have z := q H2 (s1.trans s2)
      rw [show supM tbl s e = supF tbl e - supF tbl s from if_neg (by omega)] at z
      exact ⟨_, _, rfl, rfl, z⟩
/-! ### first_overfull -/
theorem scFo : FnScope ["system", "horizon", "totals", "period", "end", "start"] ["system", "horizon"] (defScope sFirstOverfull) := ⟨rfl, rfl, rfl, by decide +kernel, rfl, by decide +kernel, by decide +kernel⟩
def spFo (ad : Str → Addr) : Sp := fun vs H Q _ => ∃ (a : Addr) (ts : List Tk) (tbl : List Int) (h : Nat), vs = [.ref a, .int (h : Nat)] ∧ SyAt ad H a ts tbl ∧ (∀ t ∈ ts, WfT t) ∧ h ≤ 1000 ∧ ts.length ≤ 100 ∧ 1 ≤ tbl.length ∧ tbl.length ≤ 1001 ∧
  (¬ Ov ts tbl h → ∀ H', Same H H' → Q .non H') ∧ (Ov ts tbl h → ∀ (e s : Nat) H' p, e ≤ h → s < e → Same H H' → H p = none → H' p = some (.tup [.int (e : Nat), .int (s : Nat)]) → Q (.ref p) H')
theorem T_fo (T : Tx K mg ad fd) : KBn K (fd "first_overfull") ["system", "horizon"] 1 ["horizon"] (fun us ws => us ++ ws) (fun vs zs => vs ++ zs) := kbn_of T.firstOverfull.fn 1 fun _ _ _ _ _ _ us ws h1 h2 => match us, ws, h1, h2 with | [_], [_], _, _ => rfl
theorem ok_fo (T : Tx K mg ad fd) : FnOk P w K mg base CX0 7 (ad "first_overfull") (fd "first_overfull") ["system", "horizon"] (spFo ad) := by
  refine T.firstOverfull.fn.ok scFo (fun vs H Q E h => ?_) (fun cdv A outer st H vs Q E hr h => ?_)
  · obtain ⟨a, ts, tbl, h, rfl, _⟩ := h
    rfl
  · obtain ⟨a, ts, tbl, h, rfl, hs, wf, hh, hts, h1, h2, qN, qY⟩ := h
    obtain ⟨dx, ta, tb, tas, O⟩ := id hs
    refine ⟨_, pss_cons (ps_set (i := 2) scFo.nd rfl (.inl rfl) (pe_call (ok_sd T) hr (by rfl) T.systemDemands.gl T.systemDemands.fn.kp (T_sd T) .nil pass0 (pa_cons (pv 0) (pa_cons (pv 1) pa_nil))))
      (pss_cons (ps_set (i := 3) scFo.nd rfl (.inl rfl) (pe_callB call_len_seq (by rfl) T.b_len PySem.boot_len (pa_cons (pe_fld (pv 0) rfl) pa_nil)))
      (pss_cons (ps_for PassesOwn.never rfl (pi_range2 (by rfl) T.b_range (pa_cons pe_int (pa_cons (pe_op op_add (pv 1) pe_int) pa_nil))) (pg_name (i := 4) scFo.nd rfl (.inl rfl))
        (pss_one (ps_for PassesOwn.never rfl (pi_range3 (by rfl) T.b_range (pa_cons (pe_op op_sub (pe_callB (call_min2 rfl) (by rfl) T.b_min boot_min (pa_cons (pv 4) (pa_cons (pv 3) pa_nil))) pe_int) (pa_cons (pe_un un_neg pe_int) (pa_cons (pe_un un_neg pe_int) pa_nil)))) (pg_name (i := 5) scFo.nd rfl (.inl rfl))
          (pss_one (ps_if (pt_cmpR op_gt (pe_ix ix_list (pv 2) (pe_op op_sub (pv 4) (pv 5)) (fun _ _ => rfl)) (pe_call (ok_su T) (hr.mono (by decide)) (by rfl) T.supply.gl T.supply.fn.kp (T_su T) .nil pass0 (pa_cons (pe_fld (pv 0) rfl) (pa_cons (pv 5) (pa_cons (pv 4) pa_nil)))) (nomark _))
            (pss_one (ps_ret (pe_tup (pa_cons (pv 4) (pa_cons (pv 5) pa_nil))))) pss_nil)))))
      (pss_one (ps_ret pe_non)))), ?_⟩
    refine ⟨_, rfl, _, rfl, a, ts, tbl, h, rfl, hs, wf, hh, hts, fun H1 l s1 hl hlo => ?_⟩
    have O1 := O.same s1
    refine ⟨_, rfl, a, _, dx, _, _, rfl, O1.ob, T.systemInit.cl, T.nSystem_table, rfl, tb, _, rfl, .inr (SqT.of O1.bo), ?_⟩
    rw [List.length_map]
    refine ⟨_, rfl, _, _, rfl, rfl, _, _, rfl, ⟨by decide, by decide, by omega, by omega⟩, for_it (walk_range (lo := 1) (n := ((h : Nat) + 1 - 1 : Int).toNat)) (fun i σ H' => ∃ v4 v5, Same H1 H' ∧ (∀ e s : Nat, 1 ≤ e → e < 1 + i → s < e → s < tbl.length → ¬ OvAt ts tbl h e s) ∧ σ = [some (.ref a), some (.int (h : Nat)), some (.ref l), some (.int (tbl.length : Nat)), v4, v5])
      ⟨none, none, Same.refl _, fun e s h1 h2 => by omega, rfl⟩ (fun _ _ _ _ _ => trivial) ?_ ?_⟩
    · rintro i v σ H2 H3 hi ⟨v4, v5, s2, hno, rfl⟩ ⟨rfl, rfl⟩
      have ei : (1 : Int) + (i : Nat) = ((1 + i : Nat) : Int) := by omega
      generalize he : 1 + i = e at ei hno
      dsimp only
      rw [ei]
      have hle : e ≤ h := by omega
      generalize hm : (if ((tbl.length : Nat) : Int) < ((e : Nat) : Int) then ((tbl.length : Nat) : Int) else ((e : Nat) : Int)) = m
      obtain ⟨mn, hmn⟩ : ∃ mn : Nat, m = (mn : Int) := ⟨m.toNat, by rw [← hm]; split <;> omega⟩
      have hmn2 : mn ≤ e ∧ mn ≤ tbl.length ∧ (∀ s : Nat, s < e → s < tbl.length → s < mn) := by
        by_cases c : ((tbl.length : Nat) : Int) < ((e : Nat) : Int)
        · rw [if_pos c] at hm
          refine ⟨by omega, by omega, fun s _ _ => by omega⟩
        · rw [if_neg c] at hm
          refine ⟨by omega, by omega, fun s _ _ => by omega⟩
      refine ⟨_, rfl, _, rfl, _, _, rfl, ?_⟩
      rw [hm, hmn]
      refine ⟨_, _, rfl, rfl, _, rfl, _, rfl, _, _, _, _, rfl, RgC.neg (by omega) (by omega) (by omega) (by omega), for_it (walk_rangeC (lo := (mn : Int) - 1) (c := -1) (n := ((mn : Int) - 1 - -1).toNat)) (fun k σ H' => ∃ v5, Same H1 H' ∧ (∀ s : Nat, s < e → s < tbl.length → mn - k ≤ s → ¬ OvAt ts tbl h e s) ∧ σ = [some (.ref a), some (.int (h : Nat)), some (.ref l), some (.int (tbl.length : Nat)), some (.int (e : Nat)), v5])
        ⟨v5, s2, fun s h1 h2 h3 => absurd (hmn2.2.2 s h1 h2) (by omega), rfl⟩ (fun _ _ _ _ _ => trivial) ?_ ?_⟩
      · rintro k v σ H4 H5 hk ⟨v5', s4, hno2, rfl⟩ ⟨rfl, rfl⟩
        obtain ⟨sn, hsn⟩ : ∃ sn : Nat, (mn : Int) - 1 + (k : Nat) * -1 = (sn : Int) := ⟨mn - 1 - k, by omega⟩
        dsimp only
        rw [hsn]
        have hse : sn < e ∧ sn < tbl.length ∧ sn + 1 = mn - k := by omega
        have hlen : (sysN ts (h + 1)).length = h + 1 := sysN_len _ _
        have hix : e - sn < (sysN ts (h + 1)).length := by rw [hlen]; omega
        have O4 := O1.same s4
        refine ⟨_, rfl, _, rfl, _, rfl, _, _, rfl, rfl, l, _, _, .int (sysN ts (h + 1))[e - sn], rfl, rfl, SqL.of (s4 _ _ hlo), at_of (j := e - sn) (by omega) (by rw [List.getElem?_map, List.getElem?_eq_getElem hix]; rfl), _, rfl, a, _, dx, _, _, rfl, O4.ob, T.systemInit.cl, T.nSystem_table, rfl, _, rfl, _, rfl, tb, tbl, sn, e, rfl, O4.bo, h1, h2, (by omega), (by omega), fun H6 s6 => ?_⟩
        have egd : (sysN ts (h + 1)).getD (e - sn) 0 = (sysN ts (h + 1))[e - sn] := by rw [List.getD_eq_getElem?_getD, List.getElem?_eq_getElem hix]; rfl
        refine ⟨_, _, rfl, rfl, _, rfl, ite2 (fun c => ?_) (fun c => ?_)⟩
        · have c' : supM tbl sn e < (sysN ts (h + 1))[e - sn] := of_decide_eq_true c
          refine ⟨_, rfl, _, rfl, (by show 2 ≤ sizeLine; decide), fun p hp => ?_⟩
          exact qY ⟨e, sn, by omega, hle, hse.1, hse.2.1, by unfold OvAt; rw [egd]; exact c'⟩ e sn _ p hle hse.1 ((s1.trans s4).trans (s6.trans (Same.up hp))) ((s1.trans (s4.trans s6)).free hp) upd_same
        · have c' : ¬ supM tbl sn e < (sysN ts (h + 1))[e - sn] := fun z => c (decide_eq_true z)
          refine ⟨_, s4.trans s6, fun s q1 q2 q3 => ?_, rfl⟩
          by_cases es : s = sn
          · subst es
            unfold OvAt
            rw [egd]
            exact c'
          · exact hno2 s q1 q2 (by omega)
      · rintro σ H4 ⟨v5', s4, hno2, rfl⟩
        refine ⟨_, _, s4, fun e' s q1 q2 q3 q4 => ?_, rfl⟩
        by_cases ee : e' = e
        · subst ee
          exact hno2 s q3 q4 (by omega)
        · exact hno e' s q1 (by omega) q3 q4
    · rintro σ H2 ⟨v4, v5, s2, hno, rfl⟩
      refine qN (fun ⟨e, s, q1, q2, q3, q4, q5⟩ => hno e s q1 (by omega) q3 q4 q5) _ (s1.trans s2)
end
end Nl
set_option maxHeartbeats 4000000
namespace Nl
open PySem PySem.Spec PyProof.Rows L2
/-! ### ratios -/
def rV (r : Int × Int) : List V := [.int r.1, .int r.2]
def mkR (top bottom : Int) : Int × Int := (top / ((Nat.gcd top.natAbs bottom.natAbs : Nat) : Int), bottom / ((Nat.gcd top.natAbs bottom.natAbs : Nat) : Int))
def cmpR (r s : Int × Int) : Int := if r.1 * s.2 < s.1 * r.2 then -1 else if s.1 * r.2 < r.1 * s.2 then 1 else 0
theorem gcd_bounds {top bottom : Int} (hb : 0 < bottom) : 0 < ((Nat.gcd top.natAbs bottom.natAbs : Nat) : Int) ∧ ((Nat.gcd top.natAbs bottom.natAbs : Nat) : Int) ≤ bottom ∧ ((Nat.gcd top.natAbs bottom.natAbs : Nat) : Int) ∣ bottom := by
  have h1 : 0 < bottom.natAbs := by omega
  have h2 := Nat.gcd_pos_of_pos_right top.natAbs h1
  have h3 := Nat.le_of_dvd h1 (Nat.gcd_dvd_right top.natAbs bottom.natAbs)
  refine ⟨by omega, by omega, ?_⟩
  have := Int.natCast_dvd_natCast.mpr (Nat.gcd_dvd_right top.natAbs bottom.natAbs)
  exact Int.dvd_trans this (Int.natAbs_dvd.mpr (Int.dvd_refl _))
theorem mkR_bounds {top bottom : Int} (ht : 0 ≤ top) (hb : 0 < bottom) : 0 ≤ (mkR top bottom).1 ∧ (mkR top bottom).1 ≤ top ∧ 1 ≤ (mkR top bottom).2 ∧ (mkR top bottom).2 ≤ bottom := by
  obtain ⟨h1, h2, h3⟩ := gcd_bounds (top := top) hb
  unfold mkR
  generalize ((Nat.gcd top.natAbs bottom.natAbs : Nat) : Int) = g at *
  refine ⟨Int.ediv_nonneg ht (by omega), Int.ediv_le_self _ ht, ?_, Int.ediv_le_self _ (by omega)⟩
  have : 1 * g ≤ bottom := by omega
  exact (Int.le_ediv_iff_mul_le h1).mpr this
section
variable {P : Program} {w : World} {K : PySem.W.Frag} {mg : Str → Option Value} {base : Heap} {ad : Str → Addr} {fd : Str → FuncData}
/-! ### make_ratio -/
theorem scMr : FnScope ["top", "bottom", "divisor"] ["top", "bottom"] (defScope sMakeRatio) := ⟨rfl, rfl, rfl, by decide +kernel, rfl, by decide +kernel, by decide +kernel⟩
def spMr : Sp := fun vs H Q _ => ∃ (top bottom : Int), vs = [.int top, .int bottom] ∧ 0 < bottom ∧ bottom < 1073741824 ∧ ∀ H' p, Same H H' → H p = none → H' p = some (.tup (rV (mkR top bottom))) → Q (.ref p) H'
theorem T_mr (T : Tx K mg ad fd) : Binds K (fd "make_ratio") ["top", "bottom"] [] := T.makeRatio.fn.binds fun _ _ _ _ _ _ us hl => match us, hl with | [_, _], _ => rfl
theorem ok_mr (T : Tx K mg ad fd) : FnOk P w K mg base CX0 1 (ad "make_ratio") (fd "make_ratio") ["top", "bottom"] spMr := by
  refine T.makeRatio.fn.ok scMr (fun vs H Q E h => ?_) (fun cdv A outer s H vs Q E hr h => ?_)
  · obtain ⟨top, bottom, rfl, _⟩ := h
    rfl
  · obtain ⟨top, bottom, rfl, h1, h2, q⟩ := h
    refine ⟨_, pss_cons (ps_if (pt_cmpR op_eq (pv 1) pe_int (nomark _)) (pss_one ps_never) pss_nil)
      (pss_cons (ps_if (pt_cmpR op_lt (pv 1) pe_int (nomark _)) (pss_cons ps_never (pss_one ps_never)) pss_nil)
      (pss_cons (ps_set (i := 2) scMr.nd rfl (.inl rfl) (pe_callBfun cr_gcd (by rfl) T.gcd (pa_cons (pv 0) (pa_cons (pv 1) pa_nil))))
      (pss_one (ps_ret (pe_tup (pa_cons (pe_op op_fdiv (pv 0) (pv 2)) (pa_cons (pe_op op_fdiv (pv 1) (pv 2)) pa_nil))))))), ?_⟩
    obtain ⟨g1, g2, _⟩ := gcd_bounds (top := top) h1
    refine ⟨_, rfl, rfl, _, rfl, ite2 (fun c => ?_) (fun c => ?_)⟩
    · have : V.int bottom = V.int 0 := of_decide_eq_true c
      injection this
      omega
    refine ⟨_, rfl, _, _, rfl, rfl, _, rfl, ite2 (fun c => ?_) (fun c => ?_)⟩
    · have : bottom < 0 := of_decide_eq_true c
      omega
    refine ⟨_, rfl, _, rfl, _, _, rfl, ?_⟩
    refine ⟨_, rfl, _, rfl, _, _, rfl, rfl, ⟨g1, by omega⟩, _, rfl, _, rfl, _, _, rfl, rfl, ⟨g1, by omega⟩, (by show 2 ≤ sizeLine; decide), fun p hp => ?_⟩
    exact q _ p (Same.up hp) hp upd_same
/-! ### compare_ratios -/
theorem scCr : FnScope ["first", "second", "left", "right"] ["first", "second"] (defScope sCompareRatios) := ⟨rfl, rfl, rfl, by decide +kernel, rfl, by decide +kernel, by decide +kernel⟩
def spCr : Sp := fun vs H Q _ => ∃ (a b : Addr) (r s : Int × Int), vs = [.ref a, .ref b] ∧ H a = some (.tup (rV r)) ∧ H b = some (.tup (rV s)) ∧ 0 ≤ r.2 ∧ r.2 ≤ 100000 ∧ 0 ≤ s.2 ∧ s.2 ≤ 100000 ∧ Q (.int (cmpR r s)) H
theorem T_cr (T : Tx K mg ad fd) : Binds K (fd "compare_ratios") ["first", "second"] [] := T.compareRatios.fn.binds fun _ _ _ _ _ _ us hl => match us, hl with | [_, _], _ => rfl
theorem ok_cr (T : Tx K mg ad fd) : FnOk P w K mg base CX0 1 (ad "compare_ratios") (fd "compare_ratios") ["first", "second"] spCr := by
  refine T.compareRatios.fn.ok scCr (fun vs H Q E h => ?_) (fun cdv A outer st H vs Q E hr h => ?_)
  · obtain ⟨a, b, r, s, rfl, _⟩ := h
    rfl
  · obtain ⟨a, b, r, s, rfl, ha, hb, h1, h2, h3, h4, q⟩ := h
    refine ⟨_, pss_cons (ps_set (i := 2) scCr.nd rfl (.inl rfl) (pe_op op_mul (pe_ix ix_tup (pv 0) pe_int (fun _ _ => rfl)) (pe_ix ix_tup (pv 1) pe_int (fun _ _ => rfl))))
      (pss_cons (ps_set (i := 3) scCr.nd rfl (.inl rfl) (pe_op op_mul (pe_ix ix_tup (pv 1) pe_int (fun _ _ => rfl)) (pe_ix ix_tup (pv 0) pe_int (fun _ _ => rfl))))
      (pss_cons (ps_if (pt_cmpR op_lt (pv 2) (pv 3) (nomark _)) (pss_one (ps_ret (pe_un un_neg pe_int))) pss_nil)
      (pss_cons (ps_if (pt_cmpR op_gt (pv 2) (pv 3) (nomark _)) (pss_one (ps_ret pe_int)) pss_nil)
      (pss_one (ps_ret pe_int))))), ?_⟩
    refine ⟨_, rfl, _, _, _, _, rfl, rfl, SqT.of ha, rfl, _, rfl, _, _, _, _, rfl, rfl, SqT.of hb, rfl, _, _, rfl, rfl, .inr ⟨by omega, by omega⟩, ?_⟩
    refine ⟨_, rfl, _, _, _, _, rfl, rfl, SqT.of hb, rfl, _, rfl, _, _, _, _, rfl, rfl, SqT.of ha, rfl, _, _, rfl, rfl, .inr ⟨by omega, by omega⟩, ?_⟩
    refine ⟨_, rfl, _, rfl, _, _, rfl, rfl, _, rfl, ite2 (fun c => ?_) (fun c => ?_)⟩
    · have e : cmpR r s = -1 := if_pos (of_decide_eq_true c)
      rw [e] at q
      exact ⟨_, rfl, q⟩
    · have n1 : ¬ r.1 * s.2 < s.1 * r.2 := fun z => c (decide_eq_true z)
      refine ⟨_, rfl, _, rfl, _, _, rfl, rfl, _, rfl, ite2 (fun c => ?_) (fun c => ?_)⟩
      · have e : cmpR r s = 1 := by unfold cmpR; rw [if_neg n1, if_pos (of_decide_eq_true c)]
        rw [e] at q
        exact q
      · have e : cmpR r s = 0 := by unfold cmpR; rw [if_neg n1, if_neg (fun z => c (decide_eq_true z))]
        rw [e] at q
        exact q
end
end Nl
set_option maxHeartbeats 4000000
namespace Nl
open PySem PySem.Spec PyProof.Rows L2
/-! ### circuits in plain Lean -/
def extW (rec : Nat → List Int → List Nat → List (List Int)) (t : Tk) (start last : Nat) (path : List Int) (vis : List Nat) (i : Nat) (w : Wy) : List (List Int) :=
  if kno t w.1 = last then (if kno t w.2.1 = start then [path ++ [(i : Int)]] else if start < kno t w.2.1 ∧ kno t w.2.1 ∉ vis then rec (kno t w.2.1) (path ++ [(i : Int)]) (vis ++ [kno t w.2.1]) else []) else []
def ext (t : Tk) (start : Nat) : Nat → Nat → List Int → List Nat → List (List Int)
  | 0, _, _, _ => []
  | F + 1, last, path, vis => (List.range t.ways.length).flatMap fun i => extW (ext t start F) t start last path vis i (t.ways.getD i (Str.empty, Str.empty, 0))
def unv (nk : Nat) (vis : List Nat) : Nat := ((List.range nk).filter fun i => decide (i ∉ vis)).length
theorem unv_lt {nk x : Nat} {vis : List Nat} (h : x < nk) (hx : x ∉ vis) : unv nk (vis ++ [x]) < unv nk vis := by
  unfold unv
  have e : (List.range nk).filter (fun i => decide (i ∉ vis ++ [x])) = ((List.range nk).filter fun i => decide (i ∉ vis)).filter fun i => decide (i ≠ x) := by
    rw [List.filter_filter]
    congr 1
    funext i
    by_cases a : i ∈ vis <;> by_cases b : i = x <;> simp [a, b]
  rw [e]
  apply List.length_filter_lt_length_iff_exists.mpr
  exact ⟨x, List.mem_filter.mpr ⟨List.mem_range.mpr h, by simpa using hx⟩, by simp⟩
theorem flatMap_len {f : Nat → List (List Int)} {B : Nat} (h : ∀ i, (f i).length ≤ B) : ∀ n, ((List.range n).flatMap f).length ≤ n * B
  | 0 => by simp
  | n + 1 => by
    rw [List.range_succ, List.flatMap_append, List.length_append, Nat.succ_mul]
    have := flatMap_len h n
    have := h n
    simp only [List.flatMap_cons, List.flatMap_nil, List.append_nil]
    omega
theorem extW_len {rec : Nat → List Int → List Nat → List (List Int)} {t : Tk} {start last : Nat} {path : List Int} {vis : List Nat} {B : Nat} (hB : 1 ≤ B) (h : ∀ a b c, (rec a b c).length ≤ B) (i : Nat) (w : Wy) : (extW rec t start last path vis i w).length ≤ B := by
  unfold extW
  split
  · split
    · simpa using hB
    · split
      · exact h _ _ _
      · simp
  · simp
theorem ext_len {t : Tk} {start : Nat} (hw : t.ways.length ≤ 3) : ∀ (F last : Nat) (path : List Int) (vis : List Nat), (ext t start F last path vis).length ≤ 3 ^ F
  | 0, _, _, _ => by simp [ext]
  | F + 1, last, path, vis => by
    have h1 : 1 ≤ 3 ^ F := Nat.one_le_pow _ _ (by decide)
    have := flatMap_len (f := fun i => extW (ext t start F) t start last path vis i (t.ways.getD i (Str.empty, Str.empty, 0))) (B := 3 ^ F) (fun i => extW_len h1 (ext_len hw F) _ _) t.ways.length
    refine Nat.le_trans this ?_
    rw [Nat.pow_succ, Nat.mul_comm]
    exact Nat.mul_le_mul_left _ hw
/-- what a circuit is made of -/
theorem ext_mem {t : Tk} {start : Nat} : ∀ (F last : Nat) (path : List Int) (vis : List Nat), (∀ n ∈ path, 0 ≤ n ∧ n < (t.ways.length : Int)) → ∀ c ∈ ext t start F last path vis, (∀ n ∈ c, 0 ≤ n ∧ n < (t.ways.length : Int)) ∧ path.length < c.length ∧ c.length ≤ path.length + F
  | 0, _, _, _, _, c, h => by simp [ext] at h
  | F + 1, last, path, vis, hp, c, h => by
    obtain ⟨i, hi, h⟩ := List.mem_flatMap.mp (show c ∈ (List.range t.ways.length).flatMap fun i => extW (ext t start F) t start last path vis i (t.ways.getD i (Str.empty, Str.empty, 0)) from h)
    have hi := List.mem_range.mp hi
    have hp' : ∀ n ∈ path ++ [(i : Int)], 0 ≤ n ∧ n < (t.ways.length : Int) := fun n hn => by
      rcases List.mem_append.mp hn with hn | hn
      · exact hp n hn
      · rw [List.mem_singleton.mp hn]; omega
    unfold extW at h
    split at h
    · split at h
      · rw [List.mem_singleton.mp h]
        refine ⟨hp', by simp, by simp⟩
      · split at h
        · obtain ⟨h1, h2, h3⟩ := ext_mem F _ _ _ hp' c h
          rw [List.length_append, List.length_singleton] at h2 h3
          exact ⟨h1, by omega, by omega⟩
        · simp at h
    · simp at h
/-- all but one list -/
def SameX (f : Addr) (H H' : Hp) : Prop := ∀ b o, b ≠ f → H b = some o → H' b = some o
theorem SameX.of {f : Addr} {H H' : Hp} (h : Same H H') : SameX f H H' := fun b o _ e => h b o e
theorem SameX.trans {f : Addr} {H H1 H2 : Hp} (h : SameX f H H1) (h' : SameX f H1 H2) : SameX f H H2 := fun b o n e => h' b o n (h b o n e)
theorem SameX.upd {f : Addr} {H : Hp} {o : HO} : SameX f H (upd H f o) := fun b u n e => by rw [upd_ne n]; exact e
theorem TkAt.sameX {ad : Str → Addr} {f : Addr} {H H' : Hp} {a : Addr} {t : Tk} (h : TkAt ad H a t) (s : SameX f H H') {xs : List V} (hf : H f = some (.lst xs)) : TkAt ad H' a t := by
  obtain ⟨dx, ka, wa, kas, was, h⟩ := h
  have k : ∀ b ys, H b = some (.tup ys) → H' b = some (.tup ys) := fun b ys e => s b _ (ne_of e hf (by simp)) e
  exact ⟨dx, ka, wa, kas, was, s _ _ (ne_of h.ob hf (by simp)) h.ob, k _ _ h.ko, k _ _ h.wo, ⟨h.ks.1, fun i x e => let ⟨p, h1, h2⟩ := h.ks.2 i x e; ⟨p, h1, k _ _ h2⟩⟩, ⟨h.ws.1, fun i x e => let ⟨p, h1, h2⟩ := h.ws.2 i x e; ⟨p, h1, k _ _ h2⟩⟩⟩
theorem inV_nat {g : Nat} {vis : List Nat} : inV (.int (g : Nat)) (vis.map fun (i : Nat) => V.int (i : Nat)) = decide (g ∈ vis) := by
  unfold inV
  rw [List.any_map]
  induction vis with
  | nil => simp
  | cons x vis ih =>
    rw [List.any_cons, ih]
    by_cases e : x = g
    · subst e
      simp [eqV]
    · have : ¬ g = x := fun z => e z.symm
      simp [eqV, this, e]
      intro h
      omega
section
variable {P : Program} {w : World} {K : PySem.W.Frag} {mg : Str → Option Value} {base : Heap} {ad : Str → Addr} {fd : Str → FuncData}
/-! ### extend_path -/
theorem scExt : FnScope ["task", "start", "last", "path", "visited", "found", "number", "way", "target"] ["task", "start", "last", "path", "visited", "found"] (defScope sExtendPath) := ⟨rfl, rfl, rfl, by decide +kernel, rfl, by decide +kernel, by decide +kernel⟩
def natV (vis : List Nat) : List V := vis.map fun (i : Nat) => V.int (i : Nat)
def spExt (ad : Str → Addr) (F : Nat) : Sp := fun vs H Q _ => ∃ (a f pp pw : Addr) (t : Tk) (start last : Nat) (path : List Int) (vis : List Nat) (as : List Addr) (rs : List (List Int)), vs = [.ref a, .int (start : Nat), .int (last : Nat), .ref pp, .ref pw, .ref f] ∧
  TkAt ad H a t ∧ WfT t ∧ H pp = some (.lst (path.map V.int)) ∧ H pw = some (.lst (natV vis)) ∧ H f = some (.lst (as.map V.ref)) ∧ Rows2 H as rs ∧ (∀ p ∈ as, p ≠ f) ∧ pp ≠ f ∧ pw ≠ f ∧
  unv t.kinds.length vis < F ∧ path.length + F ≤ 1000 ∧ vis.length + F ≤ 1000 ∧ rs.length + 3 ^ F ≤ 100000 ∧
  ∀ H' as', SameX f H H' → H' f = some (.lst (as'.map V.ref)) → Rows2 H' as' (rs ++ ext t start F last path vis) → (∀ p ∈ as', p ≠ f) → Q .non H'
theorem T_ext (T : Tx K mg ad fd) : Binds K (fd "extend_path") ["task", "start", "last", "path", "visited", "found"] [] := T.extendPath.fn.binds fun _ _ _ _ _ _ us hl => match us, hl with | [_, _, _, _, _, _], _ => rfl
theorem ok_ext (T : Tx K mg ad fd) : ∀ F, FnOk P w K mg base CX0 (F + 2) (ad "extend_path") (fd "extend_path") ["task", "start", "last", "path", "visited", "found"] (spExt ad F)
  | 0 => by
    refine FnOk.mono (T.extendPath.fn.ok (k := 1) scExt (fun vs H Q E h => ?_) (fun cdv A outer s H vs Q E hr h => ?_)) (by decide)
    · obtain ⟨a, f, pp, pw, t, start, last, path, vis, as, rs, rfl, _⟩ := h
      rfl
    · obtain ⟨a, f, pp, pw, t, start, last, path, vis, as, rs, rfl, _, _, _, _, _, _, _, _, _, hu, _⟩ := h
      exact absurd hu (Nat.not_lt_zero _)
  | F + 1 => by
    refine T.extendPath.fn.ok (k := F + 2) scExt (fun vs H Q E h => ?_) (fun cdv A outer s H vs Q E hr h => ?_)
    · obtain ⟨a, f, pp, pw, t, start, last, path, vis, as, rs, rfl, _⟩ := h
      rfl
    · obtain ⟨a, f, pp, pw, t, start, last, path, vis, as, rs, rfl, ht, wf, hpp, hpw, hf, hrs, has, npp, npw, hu, hl1, hl2, hl3, q⟩ := h
      refine ⟨_, pss_one (ps_for PassesOwn.never rfl (pi_enumT (by rfl) T.b_enumerate (pa_cons (pe_fld (pv 0) rfl) pa_nil)) (pg_tup rfl (pgs_cons (pg_name (i := 6) scExt.nd rfl (.inl rfl)) (pgs_cons (pg_name (i := 7) scExt.nd rfl (.inl rfl)) pgs_nil)))
        (pss_cons (ps_if (pt_cmpR op_ne (pe_meth (pv 0) T.taskInit.cl T.taskKindNumber.me (ok_kno T) (hr.mono (by omega)) (T_kno T) .nil pass0 (pa_cons (pe_ix ix_tup (pv 7) pe_int (fun _ _ => rfl)) pa_nil)) (pv 2) (nomark _)) (pss_one ps_continue) pss_nil)
        (pss_cons (ps_set (i := 8) scExt.nd rfl (.inl rfl) (pe_meth (pv 0) T.taskInit.cl T.taskKindNumber.me (ok_kno T) (hr.mono (by omega)) (T_kno T) .nil pass0 (pa_cons (pe_ix ix_tup (pv 7) pe_int (fun _ _ => rfl)) pa_nil)))
        (pss_one (ps_if (pt_cmpR op_eq (pv 8) (pv 1) (nomark _))
          (pss_one (ps_expr (pe_bm PySem.F.plainAttrs_list PySem.F.slot_list_append PySem.F.type_list_append mt_append (pv 5) (pa_cons (pe_op op_cat (pv 3) (pe_lst (pa_cons (pv 6) pa_nil))) pa_nil))))
          (pss_one (ps_if (pw_and (pt_cmpR op_gt (pv 8) (pv 1) (nomark _)) (pw_and1 (pt_cmpR op_notIn_seq (pv 8) (pv 4) (by with_unfolding_all rfl)))).pt
            (pss_one (ps_expr (pe_call (ok_ext T F) hr (by rfl) T.extendPath.gl T.extendPath.fn.kp (T_ext T) .nil pass0 (pa_cons (pv 0) (pa_cons (pv 1) (pa_cons (pv 8) (pa_cons (pe_op op_cat (pv 3) (pe_lst (pa_cons (pv 6) pa_nil))) (pa_cons (pe_op op_cat (pv 4) (pe_lst (pa_cons (pv 8) pa_nil))) (pa_cons (pv 5) pa_nil)))))))))
            pss_nil))))))), ?_⟩
      obtain ⟨dx, ka, wa, kas, was, O⟩ := id ht
      have hx0 : (ext t start (F + 1) last path vis) = (List.range t.ways.length).flatMap fun i => extW (ext t start F) t start last path vis i (t.ways.getD i (Str.empty, Str.empty, 0)) := rfl
      have h3F : 1 ≤ 3 ^ F := Nat.one_le_pow _ _ (by decide)
      have h3 : 3 ^ (F + 1) = 3 * 3 ^ F := by rw [Nat.pow_succ, Nat.mul_comm]
      generalize hg : (fun i => extW (ext t start F) t start last path vis i (t.ways.getD i (Str.empty, Str.empty, 0))) = g at hx0
      have hgl : ∀ n, ((List.range n).flatMap g).length ≤ n * 3 ^ F := flatMap_len fun i => by rw [← hg]; exact extW_len h3F (ext_len wf.wlen F) _ _
      refine ⟨_, rfl, a, _, dx, _, _, rfl, O.ob, T.taskInit.cl, T.nTask_ways, rfl, wa, _, rfl, SqT.of O.wo, for_it (walk_enumT (a := wa) (xs := was.map V.ref)) (fun i σ H' => ∃ v6 v7 v8 as', SameX f H H' ∧ H' f = some (.lst (as'.map V.ref)) ∧ Rows2 H' as' (rs ++ (List.range i).flatMap g) ∧ (∀ p ∈ as', p ≠ f) ∧
          σ = [some (.ref a), some (.int (start : Nat)), some (.int (last : Nat)), some (.ref pp), some (.ref pw), some (.ref f), v6, v7, v8])
        ⟨none, none, none, as, SameX.of (Same.refl H), hf, by simpa using hrs, has, rfl⟩ (fun i σ H' _ ⟨_, _, _, _, s1, _⟩ => SqT.of (s1 _ _ (ne_of O.wo hf (by simp)) O.wo)) ?_ ?_⟩
      · rintro i v σ H1 H2 hi ⟨v6, v7, v8, as1, s1, hf1, hrs1, has1, rfl⟩ ⟨U, y, z, rfl, hU, rfl, ey, ez⟩
        have ht1 := ht.sameX s1 hf
        have ew : ((was.map V.ref))[i]? = some z := ez
        have O1w : Tups wyV H1 was t.ways := ⟨O.ws.1, fun j x e => let ⟨p, h1, h2⟩ := O.ws.2 j x e; ⟨p, h1, s1 _ _ (ne_of h2 hf (by simp)) h2⟩⟩
        obtain ⟨p, wy, rfl, hp, hwy, hpt⟩ := O1w.get ew
        cases ey
        have s2 : Same H1 (upd H1 U (.tup [.int (i : Nat), .ref p])) := Same.up hU
        have hgi : g i = extW (ext t start F) t start last path vis i wy := by
          rw [← hg]
          show extW _ _ _ _ _ _ _ (t.ways.getD i _) = _
          rw [List.getD_eq_getElem?_getD, hwy]; rfl
        have hrange : (List.range (i + 1)).flatMap g = (List.range i).flatMap g ++ g i := by
          rw [List.range_succ, List.flatMap_append]; simp
        have hilt : i < t.ways.length := (List.getElem?_eq_some_iff.mp hwy).1
        have hi3 : i ≤ 2 := by have := wf.wlen; omega
        have hmem := List.mem_of_getElem? hwy
        have k1 := wf.src _ hmem
        have k2 := wf.tgt _ hmem
        have ht2 := ht1.same s2
        obtain ⟨dx2, ka2, wa2, kas2, was2, O2⟩ := id ht2
        have hcnt : (rs ++ (List.range i).flatMap g).length ≤ rs.length + i * 3 ^ F := by rw [List.length_append]; have := hgl i; omega
        have hmul : i * 3 ^ F ≤ 2 * 3 ^ F := Nat.mul_le_mul_right _ hi3
        refine ⟨_, _, rfl, SqT.of upd_same, rfl, _, _, rfl, _, _, rfl, ⟨rfl, ?_⟩⟩
        refine ⟨_, rfl, a, dx2, _, rfl, O2.ob, rfl, _, rfl, _, _, _, _, rfl, rfl, SqT.of (s2 _ _ hpt), rfl, a, t, wy.1, rfl, ht2, k1, fun H3 s3 => ?_⟩
        refine ⟨_, rfl, rfl, _, rfl, ite2 (fun c => ?_) (fun c => ?_)⟩
        · have e : ¬ kno t wy.1 = last := fun e => by rw [e] at c; simp at c
          have eg : g i = [] := by rw [hgi]; exact if_neg e
          refine ⟨_, _, _, as1, s1.trans (SameX.of (s2.trans s3)), s3 _ _ (s2 _ _ hf1), ?_, has1, rfl⟩
          rw [hrange, eg, List.append_nil]
          exact (hrs1.same s2).same s3
        · have e : kno t wy.1 = last := by
            by_cases e : kno t wy.1 = last
            · exact e
            · have ne : ¬ (V.int (kno t wy.1 : Nat) = V.int (last : Nat)) := fun h => e (by injection h with h; omega)
              exact absurd (by rw [decide_eq_false ne]; rfl) c
          have s23 := s2.trans s3
          refine ⟨_, rfl, a, dx2, _, rfl, s3 _ _ O2.ob, rfl, _, rfl, _, _, _, _, rfl, rfl, SqT.of (s23 _ _ hpt), rfl, a, t, wy.2.1, rfl, ht2.same s3, k2, fun H4 s4 => ?_⟩
          have s24 := s23.trans s4
          have hf4 := s24 _ _ hf1
          have hpp4 : H4 pp = some (.lst (path.map V.int)) := s24 _ _ (s1 _ _ npp hpp)
          have hpw4 : H4 pw = some (.lst (natV vis)) := s24 _ _ (s1 _ _ npw hpw)
          refine ⟨_, rfl, _, rfl, rfl, _, rfl, ite2 (fun c2 => ?_) (fun c2 => ?_)⟩
          · have e2 : kno t wy.2.1 = start := by have := of_decide_eq_true c2; injection this with this; omega
            have eg : g i = [path ++ [(i : Int)]] := by rw [hgi]; unfold extW; rw [if_pos e, if_pos e2]
            refine ⟨_, rfl, .inl ⟨rfl, _, SqL.of hf4⟩, _, rfl, _, rfl, (by show 1 ≤ sizeLine; decide), fun b1 hb1 => ?_⟩
            have s5 : Same H4 (upd H4 b1 (.lst [.int (i : Nat)])) := Same.up hb1
            refine ⟨pp, b1, _, _, rfl, rfl, s5 _ _ hpp4, upd_same, (by rw [List.length_map]; exact Nat.le_of_lt (small (by simp; omega))), fun b2 hb2 => ?_⟩
            have s6 := s5.trans (Same.up (o := .lst (path.map V.int ++ [.int (i : Nat)])) hb2)
            have hf6 := s6 _ _ hf4
            have nb2 : b2 ≠ f := (ne_of_none (s5 _ _ hf4) hb2).symm
            refine ⟨f, _, _, rfl, rfl, hf6, small (by rw [List.length_map, hrs1.1]; omega), ?_⟩
            refine ⟨_, _, _, as1 ++ [b2], (s1.trans (SameX.of (s24.trans s6))).trans SameX.upd, (by rw [upd_same, List.map_append]; rfl), ?_, fun p hp => ?_, rfl⟩
            · rw [hrange, eg, ← List.append_assoc]
              refine Rows2.snoc (Rows2.keep ((hrs1.same s24).same s6) has1 fun b o hb e => by rw [upd_ne hb]; exact e) ?_
              rw [upd_ne nb2, upd_same, List.map_append]
              rfl
            · rcases List.mem_append.mp hp with hp | hp
              · exact has1 p hp
              · rw [List.mem_singleton.mp hp]; exact nb2
          · have e2 : ¬ kno t wy.2.1 = start := fun e2 => c2 (by rw [e2]; simp)
            refine ⟨_, rfl, _, rfl, _, _, rfl, rfl, _, rfl, ite2 (fun c3 => ?_) (fun c3 => ?_)⟩
            · have e3 : start < kno t wy.2.1 := by have := of_decide_eq_true c3; omega
              refine ⟨_, rfl, _, rfl, pw, _, rfl, .inl (SqL.of hpw4), rfl, (by simp [natV, flatV]), _, rfl, ?_⟩
              rw [if_pos rfl, natV, inV_nat]
              refine ite2 (fun c4 => ?_) (fun c4 => ?_)
              · have e4 : kno t wy.2.1 ∉ vis := by simpa using c4
                have eg : g i = ext t start F (kno t wy.2.1) (path ++ [(i : Int)]) (vis ++ [kno t wy.2.1]) := by rw [hgi]; unfold extW; rw [if_pos e, if_neg e2, if_pos ⟨e3, e4⟩]
                refine ⟨_, rfl, _, rfl, _, rfl, _, rfl, _, rfl, (by show 1 ≤ sizeLine; decide), fun b1 hb1 => ?_⟩
                have s5 : Same H4 (upd H4 b1 (.lst [.int (i : Nat)])) := Same.up hb1
                refine ⟨pp, b1, _, _, rfl, rfl, s5 _ _ hpp4, upd_same, (by rw [List.length_map]; exact Nat.le_of_lt (small (by simp; omega))), fun b2 hb2 => ?_⟩
                have s6 := s5.trans (Same.up (o := .lst (path.map V.int ++ [.int (i : Nat)])) hb2)
                refine ⟨_, rfl, _, rfl, (by show 1 ≤ sizeLine; decide), fun b3 hb3 => ?_⟩
                have s7 := s6.trans (Same.up (o := .lst [.int (kno t wy.2.1 : Nat)]) hb3)
                refine ⟨pw, b3, _, _, rfl, rfl, s7 _ _ hpw4, upd_same, (by rw [natV, List.length_map]; exact Nat.le_of_lt (small (by simp; omega))), fun b4 hb4 => ?_⟩
                have s8 := s7.trans (Same.up (o := .lst (natV vis ++ [.int (kno t wy.2.1 : Nat)])) hb4)
                have n2 : b2 ≠ f := (ne_of_none (s5 _ _ hf4) hb2).symm
                have n4 : b4 ≠ f := (ne_of_none (s7 _ _ hf4) hb4).symm
                have h2 : (upd (upd (upd (upd H4 b1 (.lst [.int (i : Nat)])) b2 (.lst (path.map V.int ++ [.int (i : Nat)]))) b3 (.lst [.int (kno t wy.2.1 : Nat)])) b4 (.lst (natV vis ++ [.int (kno t wy.2.1 : Nat)]))) b2 = some (.lst ((path ++ [(i : Int)]).map V.int)) := by
                  have n32 : b2 ≠ b3 := ne_of_none (upd_same) hb3
                  have n42 : b2 ≠ b4 := ne_of_none (by rw [upd_ne n32, upd_same]) hb4
                  rw [upd_ne n42, upd_ne n32, upd_same, List.map_append]
                  rfl
                refine ⟨_, rfl, a, f, b2, b4, t, start, kno t wy.2.1, path ++ [(i : Int)], vis ++ [kno t wy.2.1], as1, rs ++ (List.range i).flatMap g, rfl, ((ht2.same s3).same s4).same s8, wf, h2, (by rw [upd_same, natV, natV, List.map_append]; rfl), s8 _ _ hf4, (hrs1.same s24).same s8, has1, n2, n4, ?_, ?_, ?_, ?_, ?_⟩
                · have := unv_lt (kno_lt k2) e4
                  omega
                · rw [List.length_append, List.length_singleton]; omega
                · rw [List.length_append, List.length_singleton]; omega
                · omega
                · intro H9 as9 s9 hf9 hrs9 has9
                  refine ⟨_, _, _, as9, (s1.trans (SameX.of (s24.trans s8))).trans s9, hf9, ?_, has9, rfl⟩
                  rw [hrange, eg, ← List.append_assoc]
                  exact hrs9
              · have e4 : ¬ kno t wy.2.1 ∉ vis := fun z => c4 (by simpa using z)
                have eg : g i = [] := by rw [hgi]; unfold extW; rw [if_pos e, if_neg e2, if_neg (fun z => e4 z.2)]
                refine ⟨_, _, _, as1, s1.trans (SameX.of s24), hf4, ?_, has1, rfl⟩
                rw [hrange, eg, List.append_nil]
                exact hrs1.same s24
            · have e3 : ¬ start < kno t wy.2.1 := fun z => c3 (decide_eq_true (by omega))
              have eg : g i = [] := by rw [hgi]; unfold extW; rw [if_pos e, if_neg e2, if_neg (fun z => e3 z.1)]
              dsimp only
              rw [if_neg (by decide : ¬ (false = true))]
              refine ⟨_, _, _, as1, s1.trans (SameX.of s24), hf4, ?_, has1, rfl⟩
              rw [hrange, eg, List.append_nil]
              exact hrs1.same s24
      · rintro σ H1 ⟨v6, v7, v8, as1, s1, hf1, hrs1, has1, rfl⟩
        rw [List.length_map, O.ws.1] at hrs1
        refine q H1 as1 s1 hf1 ?_ has1
        rw [hx0]
        exact hrs1
end
end Nl
set_option maxHeartbeats 4000000
namespace Nl
open PySem PySem.Spec PyProof.Rows L2
def circ (t : Tk) : List (List Int) := (List.range t.kinds.length).flatMap fun s => ext t s 2 s [] [s]
def wayAt (t : Tk) (n : Int) : Wy := t.ways.getD n.toNat (Str.empty, Str.empty, 0)
def cSum (t : Tk) (c : List Int) : Int := c.foldl (fun s n => s + costM t (wayAt t n).1) 0
def dSum (t : Tk) (c : List Int) : Int := c.foldl (fun s n => s + (wayAt t n).2.2) 0
def meanM (t : Tk) (c : List Int) : Int × Int := mkR (cSum t c) (dSum t c)
def bcStep (t : Tk) (b : List Int × (Int × Int)) (c : List Int) : List Int × (Int × Int) := if cmpR (meanM t c) b.2 > 0 then (c, meanM t c) else b
def bestC (t : Tk) : List Int × (Int × Int) := (circ t).foldl (bcStep t) ([], mkR 0 1)
def shareM (t : Tk) : Int × Int := if (bestC t).1.length = 0 then mkR 0 1 else meanM t (bestC t).1
def RB (r : Int × Int) : Prop := 0 ≤ r.1 ∧ r.1 ≤ 8 ∧ 1 ≤ r.2 ∧ r.2 ≤ 12
/-- a circuit's numbers -/
structure Cok (t : Tk) (c : List Int) : Prop where
  ne : 1 ≤ c.length
  len : c.length ≤ 2
  rg : ∀ n ∈ c, 0 ≤ n ∧ n < (t.ways.length : Int)
theorem fold_bounds {f : Int → Int} {lo hi : Int} : ∀ (c : List Int) (a : Int), (∀ n ∈ c, lo ≤ f n ∧ f n ≤ hi) → a + c.length * lo ≤ c.foldl (fun s n => s + f n) a ∧ c.foldl (fun s n => s + f n) a ≤ a + c.length * hi
  | [], a, _ => by simp
  | n :: c, a, h => by
    obtain ⟨h1, h2⟩ := fold_bounds c (a + f n) fun m hm => h m (List.mem_cons_of_mem _ hm)
    obtain ⟨h3, h4⟩ := h n List.mem_cons_self
    rw [List.foldl_cons, List.length_cons]
    have e1 : (((c.length + 1 : Nat) : Nat) : Int) * lo = c.length * lo + lo := by rw [Int.natCast_add, Int.add_mul]; simp
    have e2 : (((c.length + 1 : Nat) : Nat) : Int) * hi = c.length * hi + hi := by rw [Int.natCast_add, Int.add_mul]; simp
    rw [e1, e2]
    exact ⟨by omega, by omega⟩
theorem wayAt_mem {t : Tk} {n : Int} (h : 0 ≤ n ∧ n < (t.ways.length : Int)) : t.ways[n.toNat]? = some (wayAt t n) ∧ wayAt t n ∈ t.ways := by
  have hl : n.toNat < t.ways.length := by omega
  have e : t.ways[n.toNat]? = some (wayAt t n) := by
    unfold wayAt
    rw [List.getD_eq_getElem?_getD, List.getElem?_eq_getElem hl]; rfl
  exact ⟨e, List.mem_of_getElem? e⟩
theorem costM_bounds {t : Tk} (wf : WfT t) {x : Str} (h : hasK t x) : 1 ≤ costM t x ∧ costM t x ≤ 4 := by
  obtain ⟨k, h1, _⟩ := kno_spec h
  have e : costM t x = k.2.1 := by unfold costM; rw [List.getD_eq_getElem?_getD, h1]; rfl
  rw [e]
  exact wf.cost _ (List.mem_of_getElem? h1)
theorem sum_bounds {t : Tk} (wf : WfT t) {c : List Int} (h : Cok t c) : 0 ≤ cSum t c ∧ cSum t c ≤ 8 ∧ 1 ≤ dSum t c ∧ dSum t c ≤ 12 := by
  have h1 := fold_bounds (f := fun n => costM t (wayAt t n).1) (lo := 0) (hi := 4) c 0 fun n hn => by
    have := costM_bounds wf (wf.src _ (wayAt_mem (h.rg n hn)).2)
    omega
  have h2 := fold_bounds (f := fun n => (wayAt t n).2.2) (lo := 1) (hi := 6) c 0 fun n hn => wf.dist _ (wayAt_mem (h.rg n hn)).2
  have := h.ne
  have := h.len
  unfold cSum dSum
  omega
theorem meanM_RB {t : Tk} (wf : WfT t) {c : List Int} (h : Cok t c) : RB (meanM t c) := by
  obtain ⟨h1, h2, h3, h4⟩ := sum_bounds wf h
  obtain ⟨g1, g2, g3, g4⟩ := mkR_bounds (top := cSum t c) (bottom := dSum t c) h1 (by omega)
  exact ⟨g1, by unfold meanM; omega, g3, by unfold meanM; omega⟩
theorem circ_ok {t : Tk} {c : List Int} (h : c ∈ circ t) : Cok t c := by
  obtain ⟨s, hs, h⟩ := List.mem_flatMap.mp h
  obtain ⟨h1, h2, h3⟩ := ext_mem 2 s [] [s] (fun n hn => by simp at hn) c h
  exact ⟨h2, (by rw [List.length_nil] at h3; omega), h1⟩
theorem RB01 : RB (mkR 0 1) := by unfold RB; decide
theorem bestC_take {t : Tk} (wf : WfT t) : ∀ (l : List (List Int)) (b : List Int × (Int × Int)), (∀ c ∈ l, Cok t c) → (b.1 = [] ∨ Cok t b.1) → RB b.2 → ((l.foldl (bcStep t) b).1 = [] ∨ Cok t (l.foldl (bcStep t) b).1) ∧ RB (l.foldl (bcStep t) b).2
  | [], b, _, h1, h2 => ⟨h1, h2⟩
  | c :: l, b, h, h1, h2 => by
    refine bestC_take wf l (bcStep t b c) (fun c hc => h c (List.mem_cons_of_mem _ hc)) ?_ ?_
    · unfold bcStep
      split
      · exact .inr (h c List.mem_cons_self)
      · exact h1
    · unfold bcStep
      split
      · exact meanM_RB wf (h c List.mem_cons_self)
      · exact h2
theorem bestC_ok {t : Tk} (wf : WfT t) : (bestC t).1 = [] ∨ Cok t (bestC t).1 := (bestC_take wf (circ t) _ (fun c h => circ_ok h) (.inl rfl) RB01).1
theorem shareM_RB {t : Tk} (wf : WfT t) : RB (shareM t) := by
  unfold shareM
  split
  · exact RB01
  · rename_i h
    rcases bestC_ok wf with e | e
    · rw [e] at h; exact absurd rfl h
    · exact meanM_RB wf e
section
variable {P : Program} {w : World} {K : PySem.W.Frag} {mg : Str → Option Value} {base : Heap} {ad : Str → Addr} {fd : Str → FuncData}
/-! ### circuits -/
theorem scCi : FnScope ["task", "found", "start"] ["task"] (defScope sCircuits) := ⟨rfl, rfl, rfl, by decide +kernel, rfl, by decide +kernel, by decide +kernel⟩
def spCi (ad : Str → Addr) : Sp := fun vs H Q _ => ∃ (a : Addr) (t : Tk), vs = [.ref a] ∧ TkAt ad H a t ∧ WfT t ∧ ∀ H' p as, Same H H' → H p = none → H' p = some (.lst (as.map V.ref)) → Rows2 H' as (circ t) → Q (.ref p) H'
theorem T_ci (T : Tx K mg ad fd) : Binds K (fd "circuits") ["task"] [] := T.circuits.fn.binds fun _ _ _ _ _ _ us hl => match us, hl with | [_], _ => rfl
theorem ok_ci (T : Tx K mg ad fd) : FnOk P w K mg base CX0 5 (ad "circuits") (fd "circuits") ["task"] (spCi ad) := by
  refine T.circuits.fn.ok scCi (fun vs H Q E h => ?_) (fun cdv A outer s H vs Q E hr h => ?_)
  · obtain ⟨a, t, rfl, _⟩ := h
    rfl
  · obtain ⟨a, t, rfl, ht, wf, q⟩ := h
    refine ⟨_, pss_cons (ps_set (i := 1) scCi.nd rfl (.inl rfl) (pe_lst pa_nil))
      (pss_cons (ps_for PassesOwn.never rfl (pi_range1 (by rfl) T.b_range (pa_cons (pe_callB call_len_seq (by rfl) T.b_len PySem.boot_len (pa_cons (pe_fld (pv 0) rfl) pa_nil)) pa_nil)) (pg_name (i := 2) scCi.nd rfl (.inl rfl))
        (pss_one (ps_expr (pe_call (ok_ext T 2) hr (by rfl) T.extendPath.gl T.extendPath.fn.kp (T_ext T) .nil pass0 (pa_cons (pv 0) (pa_cons (pv 2) (pa_cons (pv 2) (pa_cons (pe_lst pa_nil) (pa_cons (pe_lst (pa_cons (pv 2) pa_nil)) (pa_cons (pv 1) pa_nil))))))))))
      (pss_one (ps_ret (pv 1)))), ?_⟩
    obtain ⟨dx, ka, wa, kas, was, O⟩ := id ht
    have hk2 := wf.len
    have hlen : kas.length = t.kinds.length := O.ks.1
    refine ⟨(by show 0 ≤ sizeLine; decide), fun f hf => ?_⟩
    have s0 : Same H (upd H f (.lst [])) := Same.up hf
    have O0 := O.same s0
    refine ⟨_, rfl, a, _, dx, _, _, rfl, O0.ob, T.taskInit.cl, T.nTask_kinds, rfl, ka, _, rfl, .inr (SqT.of O0.ko), _, rfl, (by omega), (by rw [List.length_map]; omega), ?_⟩
    rw [List.length_map, hlen]
    generalize hF : (fun s => ext t s 2 s [] [s]) = g
    have hc0 : circ t = (List.range t.kinds.length).flatMap g := by unfold circ; rw [hF]
    have hgl : ∀ n, ((List.range n).flatMap g).length ≤ n * 9 := flatMap_len fun i => by rw [← hF]; exact ext_len wf.wlen 2 _ _ _
    refine for_range (lo := 0) (n := ((t.kinds.length : Nat) : Int).toNat) (fun i σ H' => ∃ v2 as, Same H H' ∧ H' f = some (.lst (as.map V.ref)) ∧ Rows2 H' as ((List.range i).flatMap g) ∧ (∀ p ∈ as, p ≠ f) ∧ σ = [some (.ref a), some (.ref f), v2])
      ⟨none, [], s0, upd_same, ⟨rfl, fun i x e => by simp at e⟩, fun p hp => by simp at hp, rfl⟩ ?_ ?_
    · rintro i σ H1 hi ⟨v2, as, s1, hfo, hrs, has, rfl⟩
      have ht1 := ht.same s1
      refine ⟨_, rfl, _, rfl, _, rfl, (by show 0 ≤ sizeLine; decide), fun b1 hb1 => ?_⟩
      have s2 : Same H1 (upd H1 b1 (.lst [])) := Same.up hb1
      refine ⟨_, rfl, (by show 1 ≤ sizeLine; decide), fun b2 hb2 => ?_⟩
      have s3 := s2.trans (Same.up (o := .lst [.int (0 + (i : Nat))]) hb2)
      have e0 : V.int (0 + (i : Nat)) = V.int ((i : Nat) : Int) := by rw [Int.zero_add]
      have n12 : b1 ≠ b2 := ne_of_none upd_same hb2
      refine ⟨_, rfl, a, f, b1, b2, t, i, i, [], [i], as, (List.range i).flatMap g, (by rw [e0]; rfl), ht1.same s3, wf, (by rw [upd_ne n12, upd_same]; rfl), (by rw [upd_same, e0]; rfl), s3 _ _ hfo, hrs.same s3, has, (ne_of_none hfo hb1).symm, (ne_of_none (s2 _ _ hfo) hb2).symm, ?_, by decide, (by show 1 + 2 ≤ 1000; decide), ?_, ?_⟩
      · have hi' : i < t.kinds.length := by omega
        have := unv_lt (nk := t.kinds.length) (x := i) (vis := []) hi' (by simp)
        have h0 : unv t.kinds.length [] ≤ t.kinds.length := by
          unfold unv
          refine Nat.le_trans (List.length_filter_le _ _) ?_
          rw [List.length_range]
          exact Nat.le_refl _
        rw [List.nil_append] at this
        omega
      · have := hgl i
        omega
      · intro H4 as4 s4 hf4 hrs4 has4
        have s5 : Same H H4 := fun b o e => s4 b o (ne_of_none e hf) (s3 _ _ (s1 _ _ e))
        refine ⟨_, as4, s5, hf4, ?_, has4, rfl⟩
        rw [List.range_succ, List.flatMap_append]
        have eg : g i = ext t i 2 i [] [i] := by rw [← hF]
        simp only [List.flatMap_cons, List.flatMap_nil, List.append_nil]
        rw [eg]
        exact hrs4
    · rintro σ H1 ⟨v2, as, s1, hfo, hrs, has, rfl⟩
      refine ⟨_, rfl, q H1 f as s1 hf hfo ?_⟩
      rw [hc0]
      exact hrs
/-! ### circuit_mean -/
theorem scCm : FnScope ["task", "circuit", "cost", "distance", "number", "way"] ["task", "circuit"] (defScope sCircuitMean) := ⟨rfl, rfl, rfl, by decide +kernel, rfl, by decide +kernel, by decide +kernel⟩
def spCm (ad : Str → Addr) : Sp := fun vs H Q _ => ∃ (a b : Addr) (t : Tk) (c : List Int), vs = [.ref a, .ref b] ∧ TkAt ad H a t ∧ WfT t ∧ H b = some (.lst (c.map V.int)) ∧ Cok t c ∧ ∀ H' p, Same H H' → H p = none → H' p = some (.tup (rV (meanM t c))) → Q (.ref p) H'
theorem T_cm (T : Tx K mg ad fd) : Binds K (fd "circuit_mean") ["task", "circuit"] [] := T.circuitMean.fn.binds fun _ _ _ _ _ _ us hl => match us, hl with | [_, _], _ => rfl
theorem T_cost (T : Tx K mg ad fd) : Binds K (fd "Task.cost") ["self", "kind_name"] [] := T.taskCost.fn.binds fun _ _ _ _ _ _ us hl => match us, hl with | [_, _], _ => rfl
theorem ok_cm (T : Tx K mg ad fd) : FnOk P w K mg base CX0 3 (ad "circuit_mean") (fd "circuit_mean") ["task", "circuit"] (spCm ad) := by
  refine T.circuitMean.fn.ok scCm (fun vs H Q E h => ?_) (fun cdv A outer s H vs Q E hr h => ?_)
  · obtain ⟨a, b, t, c, rfl, _⟩ := h
    rfl
  · obtain ⟨a, b, t, c, rfl, ht, wf, hb, hc, q⟩ := h
    refine ⟨_, pss_cons (ps_set (i := 2) scCm.nd rfl (.inl rfl) pe_int)
      (pss_cons (ps_set (i := 3) scCm.nd rfl (.inl rfl) pe_int)
      (pss_cons (ps_for PassesOwn.never rfl (pi_list (pv 1)) (pg_name (i := 4) scCm.nd rfl (.inl rfl))
        (pss_cons (ps_set (i := 5) scCm.nd rfl (.inl rfl) (pe_ix ix_tup (pe_fld (pv 0) rfl) (pv 4) (fun _ _ => rfl)))
        (pss_cons (ps_aug (i := 2) scCm.nd rfl (.inl rfl) (pe_meth (pv 0) T.taskInit.cl T.taskCost.me (ok_cost T) hr (T_cost T) .nil pass0 (pa_cons (pe_ix ix_tup (pv 5) pe_int (fun _ _ => rfl)) pa_nil)) ip_add)
        (pss_one (ps_aug (i := 3) scCm.nd rfl (.inl rfl) (pe_ix ix_tup (pv 5) pe_int (fun _ _ => rfl)) ip_add)))))
      (pss_one (ps_ret (pe_call (ok_mr T) (hr.mono (by decide)) (by rfl) T.makeRatio.gl T.makeRatio.fn.kp (T_mr T) .nil pass0 (pa_cons (pv 2) (pa_cons (pv 3) pa_nil))))))), ?_⟩
    obtain ⟨dx, ka, wa, kas, was, O⟩ := id ht
    refine ⟨_, rfl, b, rfl, ⟨_, SqL.of hb⟩, for_it (walk_list (a := b) (xs := c.map V.int)) (fun i σ H' => ∃ v4 v5, Same H H' ∧ σ = [some (.ref a), some (.ref b), some (.int (cSum t (c.take i))), some (.int (dSum t (c.take i))), v4, v5])
      ⟨none, none, Same.refl _, rfl⟩ (fun i σ H' _ ⟨_, _, s1, _⟩ => SqL.of (s1 _ _ hb)) ?_ ?_⟩
    · rintro i v σ H1 H2 hi ⟨v4, v5, s1, rfl⟩ ⟨rfl, ev⟩
      rw [List.getElem?_map] at ev
      cases en : c[i]? with
      | none => rw [en] at ev; cases ev
      | some n =>
        rw [en] at ev
        cases ev
        have hn := hc.rg n (List.mem_of_getElem? en)
        obtain ⟨w1, w2⟩ := wayAt_mem hn
        have O1 := O.same s1
        obtain ⟨p, hp, hpt⟩ := O1.ws.at w1
        have k1 := wf.src _ w2
        have e1 : cSum t (c.take (i + 1)) = cSum t (c.take i) + costM t (wayAt t n).1 := foldl_take (f := fun s n => s + costM t (wayAt t n).1) en
        have e2 : dSum t (c.take (i + 1)) = dSum t (c.take i) + (wayAt t n).2.2 := foldl_take (f := fun s n => s + (wayAt t n).2.2) en
        refine ⟨_, rfl, a, _, dx, _, _, rfl, O1.ob, T.taskInit.cl, T.nTask_ways, rfl, _, rfl, _, _, _, _, rfl, rfl, SqT.of O1.wo, at_of (j := n.toNat) (by omega) hp, ?_⟩
        refine ⟨_, rfl, _, rfl, a, dx, _, rfl, O1.ob, rfl, _, rfl, _, _, _, _, rfl, rfl, SqT.of hpt, rfl, a, t, _, rfl, ht.same s1, k1, fun H3 s3 => ?_⟩
        refine ⟨_, _, rfl, rfl, _, rfl, _, rfl, _, _, _, _, rfl, rfl, SqT.of (s3 _ _ hpt), rfl, _, _, rfl, rfl, ?_⟩
        exact ⟨_, _, s1.trans s3, by rw [e1, e2]; rfl⟩
    · rintro σ H1 ⟨v4, v5, s1, rfl⟩
      rw [List.length_map, List.take_length]
      obtain ⟨_, _, h3, h4⟩ := sum_bounds wf hc
      exact ⟨_, rfl, _, rfl, _, _, rfl, by omega, by omega, fun H2 p s2 hp hpo => q H2 p (s1.trans s2) (s1.free hp) hpo⟩
/-! ### best_circuit -/
theorem scBs : FnScope ["task", "best", "greatest", "circuit", "mean"] ["task"] (defScope sBestCircuit) := ⟨rfl, rfl, rfl, by decide +kernel, rfl, by decide +kernel, by decide +kernel⟩
def spBs (ad : Str → Addr) : Sp := fun vs H Q _ => ∃ (a : Addr) (t : Tk), vs = [.ref a] ∧ TkAt ad H a t ∧ WfT t ∧ ∀ H' p, Same H H' → H' p = some (.lst ((bestC t).1.map V.int)) → Q (.ref p) H'
theorem T_bs (T : Tx K mg ad fd) : Binds K (fd "best_circuit") ["task"] [] := T.bestCircuit.fn.binds fun _ _ _ _ _ _ us hl => match us, hl with | [_], _ => rfl
theorem ok_bs (T : Tx K mg ad fd) : FnOk P w K mg base CX0 6 (ad "best_circuit") (fd "best_circuit") ["task"] (spBs ad) := by
  refine T.bestCircuit.fn.ok scBs (fun vs H Q E h => ?_) (fun cdv A outer s H vs Q E hr h => ?_)
  · obtain ⟨a, t, rfl, _⟩ := h
    rfl
  · obtain ⟨a, t, rfl, ht, wf, q⟩ := h
    refine ⟨_, pss_cons (ps_set (i := 1) scBs.nd rfl (.inl rfl) (pe_lst pa_nil))
      (pss_cons (ps_set (i := 2) scBs.nd rfl (.inl rfl) (pe_call (ok_mr T) (hr.mono (by decide)) (by rfl) T.makeRatio.gl T.makeRatio.fn.kp (T_mr T) .nil pass0 (pa_cons pe_int (pa_cons pe_int pa_nil))))
      (pss_cons (ps_for PassesOwn.never rfl (pi_list (pe_call (ok_ci T) hr (by rfl) T.circuits.gl T.circuits.fn.kp (T_ci T) .nil pass0 (pa_cons (pv 0) pa_nil))) (pg_name (i := 3) scBs.nd rfl (.inl rfl))
        (pss_cons (ps_set (i := 4) scBs.nd rfl (.inl rfl) (pe_call (ok_cm T) (hr.mono (by decide)) (by rfl) T.circuitMean.gl T.circuitMean.fn.kp (T_cm T) .nil pass0 (pa_cons (pv 0) (pa_cons (pv 3) pa_nil))))
        (pss_one (ps_if (pt_cmpR op_gt (pe_call (ok_cr T) (hr.mono (by decide)) (by rfl) T.compareRatios.gl T.compareRatios.fn.kp (T_cr T) .nil pass0 (pa_cons (pv 4) (pa_cons (pv 2) pa_nil))) pe_int (nomark _))
          (pss_cons (ps_set (i := 1) scBs.nd rfl (.inl rfl) (pv 3)) (pss_one (ps_set (i := 2) scBs.nd rfl (.inl rfl) (pv 4)))) pss_nil))))
      (pss_one (ps_ret (pv 1))))), ?_⟩
    refine ⟨(by show 0 ≤ sizeLine; decide), fun f hf => ?_⟩
    have s0 : Same H (upd H f (.lst [])) := Same.up hf
    refine ⟨_, _, rfl, by decide, by decide, fun H1 g s1 hg hgo => ?_⟩
    have s01 := s0.trans s1
    have hf1 : H1 f = some (.lst []) := s1 _ _ upd_same
    refine ⟨_, rfl, a, t, rfl, ht.same s01, wf, fun H2 p as s2 hp hpo hrs => ?_⟩
    have s02 := s01.trans s2
    refine ⟨p, rfl, ⟨_, SqL.of hpo⟩, for_it (walk_list (a := p) (xs := as.map V.ref)) (fun i σ H' => ∃ pb pg v3 v4, Same H2 H' ∧ H' pb = some (.lst ((((circ t).take i).foldl (bcStep t) ([], mkR 0 1)).1.map V.int)) ∧ H' pg = some (.tup (rV (((circ t).take i).foldl (bcStep t) ([], mkR 0 1)).2)) ∧
        σ = [some (.ref a), some (.ref pb), some (.ref pg), v3, v4])
      ⟨f, g, none, none, Same.refl _, s2 _ _ hf1, s2 _ _ hgo, rfl⟩ (fun i σ H' _ ⟨_, _, _, _, s3, _⟩ => SqL.of (s3 _ _ hpo)) ?_ ?_⟩
    · rintro i v σ H3 H4 hi ⟨pb, pg, v3, v4, s3, hpb, hpg, rfl⟩ ⟨rfl, ev⟩
      have hil : i < (circ t).length := by rw [List.length_map, hrs.1] at hi; exact hi
      have ec := List.getElem?_eq_getElem hil
      generalize hcc : (circ t)[i] = c at ec
      have hcok : Cok t c := circ_ok (List.mem_of_getElem? ec)
      obtain ⟨u, hu, huo⟩ := (hrs.same s3).get ec
      rw [hu] at ev
      cases ev
      have hstep := foldl_take (f := bcStep t) (a := (([], mkR 0 1) : List Int × (Int × Int))) ec
      have hRB := (bestC_take wf ((circ t).take i) ([], mkR 0 1) (fun c hc => circ_ok (List.mem_of_mem_take hc)) (.inl rfl) RB01).2
      generalize hbb : ((circ t).take i).foldl (bcStep t) ([], mkR 0 1) = bb at hpb hpg hstep hRB
      refine ⟨_, rfl, _, rfl, a, u, t, c, rfl, (ht.same s02).same s3, wf, huo, hcok, fun H5 m s5 hm hmo => ?_⟩
      have hM := meanM_RB wf hcok
      refine ⟨_, rfl, _, rfl, m, pg, meanM t c, bb.2, rfl, hmo, s5 _ _ hpg, ?_, ?_, ?_, ?_, ?_⟩
      · have := hM.2.2.1; omega
      · have := hM.2.2.2; omega
      · have := hRB.2.2.1; omega
      · have := hRB.2.2.2; omega
      · refine ⟨_, _, rfl, rfl, _, rfl, ite2 (fun c1 => ?_) (fun c1 => ?_)⟩
        · have c2 : cmpR (meanM t c) bb.2 > 0 := of_decide_eq_true c1
          have e : bcStep t bb c = (c, meanM t c) := if_pos c2
          refine ⟨_, rfl, _, rfl, u, m, some (.ref u), some (.ref m), s3.trans s5, ?_, ?_, rfl⟩
          · rw [hstep, e]; exact s5 _ _ huo
          · rw [hstep, e]; exact hmo
        · have c2 : ¬ cmpR (meanM t c) bb.2 > 0 := fun z => c1 (decide_eq_true z)
          have e : bcStep t bb c = bb := if_neg c2
          refine ⟨pb, pg, some (.ref u), some (.ref m), s3.trans s5, ?_, ?_, rfl⟩
          · rw [hstep, e]; exact s5 _ _ hpb
          · rw [hstep, e]; exact s5 _ _ hpg
    · rintro σ H3 ⟨pb, pg, v3, v4, s3, hpb, hpg, rfl⟩
      rw [List.length_map, hrs.1, List.take_length] at hpb
      exact ⟨_, rfl, q H3 pb (s02.trans s3) hpb⟩
/-! ### share -/
theorem scSh : FnScope ["task", "best"] ["task"] (defScope sShare) := ⟨rfl, rfl, rfl, by decide +kernel, rfl, by decide +kernel, by decide +kernel⟩
def spSh (ad : Str → Addr) : Sp := fun vs H Q _ => ∃ (a : Addr) (t : Tk), vs = [.ref a] ∧ TkAt ad H a t ∧ WfT t ∧ ∀ H' p, Same H H' → H' p = some (.tup (rV (shareM t))) → Q (.ref p) H'
theorem T_sh (T : Tx K mg ad fd) : Binds K (fd "share") ["task"] [] := T.share.fn.binds fun _ _ _ _ _ _ us hl => match us, hl with | [_], _ => rfl
theorem ok_sh (T : Tx K mg ad fd) : FnOk P w K mg base CX0 7 (ad "share") (fd "share") ["task"] (spSh ad) := by
  refine T.share.fn.ok scSh (fun vs H Q E h => ?_) (fun cdv A outer s H vs Q E hr h => ?_)
  · obtain ⟨a, t, rfl, _⟩ := h
    rfl
  · obtain ⟨a, t, rfl, ht, wf, q⟩ := h
    refine ⟨_, pss_cons (ps_set (i := 1) scSh.nd rfl (.inl rfl) (pe_call (ok_bs T) hr (by rfl) T.bestCircuit.gl T.bestCircuit.fn.kp (T_bs T) .nil pass0 (pa_cons (pv 0) pa_nil)))
      (pss_cons (ps_if (pt_cmpR op_eq (pe_callB call_len_seq (by rfl) T.b_len PySem.boot_len (pa_cons (pv 1) pa_nil)) pe_int (nomark _))
        (pss_one (ps_ret (pe_call (ok_mr T) (hr.mono (by decide)) (by rfl) T.makeRatio.gl T.makeRatio.fn.kp (T_mr T) .nil pass0 (pa_cons pe_int (pa_cons pe_int pa_nil))))) pss_nil)
      (pss_one (ps_ret (pe_call (ok_cm T) (hr.mono (by decide)) (by rfl) T.circuitMean.gl T.circuitMean.fn.kp (T_cm T) .nil pass0 (pa_cons (pv 0) (pa_cons (pv 1) pa_nil)))))), ?_⟩
    refine ⟨_, rfl, a, t, rfl, ht, wf, fun H1 p s1 hp => ?_⟩
    refine ⟨_, rfl, p, _, rfl, .inl (SqL.of hp), rfl, _, rfl, ite2 (fun c => ?_) (fun c => ?_)⟩
    · have c1 : V.int ((((bestC t).1.map V.int).length : Nat) : Int) = V.int 0 := of_decide_eq_true c
      injection c1 with c1
      rw [List.length_map] at c1
      have e : shareM t = mkR 0 1 := if_pos (by omega)
      rw [e] at q
      exact ⟨_, _, rfl, by decide, by decide, fun H2 p2 s2 _ h2 => q H2 p2 (s1.trans s2) h2⟩
    · have c1 : ¬ (bestC t).1.length = 0 := fun z => c (decide_eq_true (by rw [List.length_map, z]; rfl))
      have e : shareM t = meanM t (bestC t).1 := if_neg c1
      rw [e] at q
      rcases bestC_ok wf with e2 | e2
      · rw [e2] at c1; exact absurd rfl c1
      · exact ⟨_, rfl, _, rfl, a, p, t, _, rfl, ht.same s1, wf, hp, e2, fun H2 p2 s2 _ h2 => q H2 p2 (s1.trans s2) h2⟩
end
end Nl
set_option maxHeartbeats 4000000
namespace Nl
open PySem PySem.Spec PyProof.Rows L2
def wwM (t : Tk) (w : Wy) (r : Int × Int) : Int := costM t w.1 * r.2 - w.2.2 * r.1
def impStep (t : Tk) (r : Int × Int) (cur : List Int) (b : List Int) (w : Wy) : List Int := b.set (kno t w.1) (mx (b.getD (kno t w.1) 0) (wwM t w r + cur.getD (kno t w.2.1) 0))
def impM (t : Tk) (r : Int × Int) (cur : List Int) : List Int := t.ways.foldl (impStep t r cur) (List.replicate t.kinds.length 0)
def wtN (t : Tk) : Nat → List Int
  | 0 => List.replicate t.kinds.length 0
  | n + 1 => impM t (shareM t) (wtN t n)
def wtM (t : Tk) : List Int := wtN t t.kinds.length
theorem impFold_len {t : Tk} {r : Int × Int} {cur : List Int} : ∀ (l : List Wy) (b : List Int), (l.foldl (impStep t r cur) b).length = b.length
  | [], b => rfl
  | w :: l, b => by rw [List.foldl_cons, impFold_len l]; simp [impStep]
theorem impM_len (t : Tk) (r : Int × Int) (cur : List Int) : (impM t r cur).length = t.kinds.length := by unfold impM; rw [impFold_len, List.length_replicate]
theorem wtN_len (t : Tk) : ∀ n, (wtN t n).length = t.kinds.length
  | 0 => by simp [wtN]
  | n + 1 => impM_len _ _ _
def kdAt (t : Tk) (j : Nat) : Kd := t.kinds.getD j (Str.empty, 0, 0)
def exN (t : Tk) : Nat → Int
  | 0 => 0
  | j + 1 => mx (exN t j) (maxL (wtM t) - (wtM t).getD j 0 + (shareM t).2 * (kdAt t j).2.1 - (shareM t).1 * (kdAt t j).2.2)
def lbM (t : Tk) : Int × Int × Int := ((shareM t).1, exN t t.kinds.length, (shareM t).2)
def tV (b : Int × Int × Int) : List V := [.int b.1, .int b.2.1, .int b.2.2]
def scM (l : List (Int × Int × Int)) : Int := l.foldl (fun s b => s * b.2.2) 1
def tpM (l : List (Int × Int × Int)) (sc : Int) : Int := l.foldl (fun s b => s + b.1 * (sc / b.2.2)) 0
def xtM (l : List (Int × Int × Int)) (sc : Int) : Int := l.foldl (fun s b => s + b.2.1 * (sc / b.2.2)) 0
def sbM (ts : List Tk) : Int × Int × Int := (tpM (ts.map lbM) (scM (ts.map lbM)), xtM (ts.map lbM) (scM (ts.map lbM)), scM (ts.map lbM))
/-- a table of the law -/
structure WfB (tbl : List Int) : Prop where
  ne : 1 ≤ tbl.length
  len : tbl.length ≤ 3
  cap : ∀ c ∈ tbl, 0 ≤ c ∧ c ≤ 3
def gainM (ts : List Tk) (tbl : List Int) : Int := tbl.sum * (sbM ts).2.2 - (sbM ts).1 * tbl.length
def lossM (ts : List Tk) (tbl : List Int) : Int := (sbM ts).2.1 * tbl.length + tbl.sum * (sbM ts).2.2 * (tbl.length - 1)
def dhM (ts : List Tk) (tbl : List Int) : Option Int := if gainM ts tbl ≤ 0 then none else some (tbl.length - 1 + mx 0 (lossM ts tbl - 1) / gainM ts tbl)
theorem sum_tbl : ∀ {tbl : List Int}, (∀ c ∈ tbl, 0 ≤ c ∧ c ≤ 3) → 0 ≤ tbl.sum ∧ tbl.sum ≤ 3 * tbl.length
  | [], _ => by simp
  | c :: tbl, h => by
    have := sum_tbl fun d hd => h d (List.mem_cons_of_mem _ hd)
    have := h c List.mem_cons_self
    rw [List.sum_cons, List.length_cons]
    omega
theorem WfB.sum {tbl : List Int} (h : WfB tbl) : 0 ≤ tbl.sum ∧ tbl.sum ≤ 9 := by
  have := sum_tbl h.cap
  have := h.len
  omega
def BB (b : Int × Int × Int) : Prop := 0 ≤ b.1 ∧ 1 ≤ b.2.2 ∧ b.2.2 ≤ 12
theorem sc_fold : ∀ (l : List (Int × Int × Int)) (s : Int), (∀ b ∈ l, BB b) → 1 ≤ s → 1 ≤ l.foldl (fun s b => s * b.2.2) s ∧ l.foldl (fun s b => s * b.2.2) s ≤ s * 12 ^ l.length
  | [], s, _, h => by simp [h]
  | b :: l, s, h, hs => by
    have hb := h b List.mem_cons_self
    have h1 : 1 ≤ s * b.2.2 := by
      have := Int.mul_le_mul hs hb.2.1 (by decide) (by omega)
      omega
    obtain ⟨g1, g2⟩ := sc_fold l (s * b.2.2) (fun c hc => h c (List.mem_cons_of_mem _ hc)) h1
    refine ⟨g1, Int.le_trans g2 ?_⟩
    rw [List.length_cons, Int.pow_succ, Int.mul_comm (12 ^ l.length) 12, ← Int.mul_assoc]
    refine Int.mul_le_mul_of_nonneg_right ?_ (Int.pow_nonneg (by decide))
    exact Int.mul_le_mul_of_nonneg_left hb.2.2 (by omega)
theorem tp_fold {sc : Int} (hs : 0 ≤ sc) : ∀ (l : List (Int × Int × Int)) (s : Int), (∀ b ∈ l, BB b) → 0 ≤ s → 0 ≤ l.foldl (fun s b => s + b.1 * (sc / b.2.2)) s
  | [], s, _, h => h
  | b :: l, s, h, h0 => by
    have hb := h b List.mem_cons_self
    refine tp_fold hs l _ (fun c hc => h c (List.mem_cons_of_mem _ hc)) ?_
    exact Int.add_nonneg h0 (Int.mul_nonneg hb.1 (Int.ediv_nonneg hs (by have := hb.2.1; omega : 0 ≤ b.2.2)))
theorem lbM_BB {t : Tk} (wf : WfT t) : BB (lbM t) := by
  obtain ⟨h1, h2, h3, h4⟩ := shareM_RB wf
  exact ⟨h1, h3, h4⟩
theorem sb_bounds {ts : List Tk} (wf : ∀ t ∈ ts, WfT t) (hl : ts.length ≤ 4) : 1 ≤ (sbM ts).2.2 ∧ (sbM ts).2.2 ≤ 20736 ∧ 0 ≤ (sbM ts).1 := by
  have hB : ∀ b ∈ ts.map lbM, BB b := fun b hb => by
    obtain ⟨t, h1, rfl⟩ := List.mem_map.mp hb
    exact lbM_BB (wf t h1)
  obtain ⟨h1, h2⟩ := sc_fold (ts.map lbM) 1 hB (by decide)
  have h3 : (12 : Int) ^ (ts.map lbM).length ≤ 20736 := by
    rw [List.length_map]
    have : ts.length = 0 ∨ ts.length = 1 ∨ ts.length = 2 ∨ ts.length = 3 ∨ ts.length = 4 := by omega
    rcases this with e | e | e | e | e <;> rw [e] <;> decide
  refine ⟨h1, by show scM _ ≤ _; unfold scM; omega, tp_fold (by show 0 ≤ scM _; unfold scM; omega) _ _ hB (by decide)⟩
theorem gain_le {ts : List Tk} {tbl : List Int} (wf : ∀ t ∈ ts, WfT t) (hl : ts.length ≤ 4) (hb : WfB tbl) : gainM ts tbl ≤ 1000000 := by
  obtain ⟨h1, h2, h3⟩ := sb_bounds wf hl
  have h4 := hb.sum
  have h5 : tbl.sum * (sbM ts).2.2 ≤ 9 * 20736 := Int.mul_le_mul h4.2 h2 (by omega) (by decide)
  have h6 : 0 ≤ (sbM ts).1 * tbl.length := Int.mul_nonneg h3 (by omega)
  unfold gainM
  omega
theorem tups_of {α : Type} {f : α → List V} {H : Hp} {ys : List V} {xs : List α} (h : ys.length = xs.length) (hr : ∀ (i : Nat) (x : α) (y : V), xs[i]? = some x → ys[i]? = some y → ∃ p, y = .ref p ∧ H p = some (.tup (f x))) : ∃ as, ys = as.map V.ref ∧ Tups f H as xs := by
  obtain ⟨as, e, hl, ha⟩ := refs_of h (fun i p => ∀ x, xs[i]? = some x → H p = some (.tup (f x))) fun i y hy => by
    have hi : i < xs.length := by rw [← h]; exact (List.getElem?_eq_some_iff.mp hy).1
    obtain ⟨p, e1, e2⟩ := hr i _ y (List.getElem?_eq_getElem hi) hy
    refine ⟨p, e1, fun x hx => ?_⟩
    rw [List.getElem?_eq_getElem hi] at hx
    cases hx
    exact e2
  refine ⟨as, e, hl, fun i x hx => ?_⟩
  have hi : i < as.length := by rw [hl]; exact (List.getElem?_eq_some_iff.mp hx).1
  exact ⟨as[i], List.getElem?_eq_getElem hi, ha i _ (List.getElem?_eq_getElem hi) x hx⟩
section
variable {P : Program} {w : World} {K : PySem.W.Frag} {mg : Str → Option Value} {base : Heap} {ad : Str → Addr} {fd : Str → FuncData}
/-! ### way_weight -/
theorem scWw : FnScope ["task", "way", "rate"] ["task", "way", "rate"] (defScope sWayWeight) := ⟨rfl, rfl, rfl, by decide +kernel, rfl, by decide +kernel, by decide +kernel⟩
def spWw (ad : Str → Addr) : Sp := fun vs H Q _ => ∃ (a b c : Addr) (t : Tk) (y : Wy) (r : Int × Int), vs = [.ref a, .ref b, .ref c] ∧ TkAt ad H a t ∧ WfT t ∧ y ∈ t.ways ∧ H b = some (.tup (wyV y)) ∧ H c = some (.tup (rV r)) ∧ ∀ H', Same H H' → Q (.int (wwM t y r)) H'
theorem T_ww (T : Tx K mg ad fd) : Binds K (fd "way_weight") ["task", "way", "rate"] [] := T.wayWeight.fn.binds fun _ _ _ _ _ _ us hl => match us, hl with | [_, _, _], _ => rfl
theorem ok_ww (T : Tx K mg ad fd) : FnOk P w K mg base CX0 3 (ad "way_weight") (fd "way_weight") ["task", "way", "rate"] (spWw ad) := by
  refine T.wayWeight.fn.ok scWw (fun vs H Q E h => ?_) (fun cdv A outer s H vs Q E hr h => ?_)
  · obtain ⟨a, b, c, t, y, r, rfl, _⟩ := h
    rfl
  · obtain ⟨a, b, c, t, y, r, rfl, ht, wf, hy, hb, hc, q⟩ := h
    refine ⟨_, pss_one (ps_ret (pe_op op_sub (pe_op op_mul (pe_meth (pv 0) T.taskInit.cl T.taskCost.me (ok_cost T) hr (T_cost T) .nil pass0 (pa_cons (pe_ix ix_tup (pv 1) pe_int (fun _ _ => rfl)) pa_nil)) (pe_ix ix_tup (pv 2) pe_int (fun _ _ => rfl)))
      (pe_op op_mul (pe_ix ix_tup (pv 1) pe_int (fun _ _ => rfl)) (pe_ix ix_tup (pv 2) pe_int (fun _ _ => rfl))))), ?_⟩
    obtain ⟨dx, ka, wa, kas, was, O⟩ := id ht
    have k1 := wf.src _ hy
    have d1 := wf.dist _ hy
    have c1 := costM_bounds wf k1
    refine ⟨_, rfl, a, dx, _, rfl, O.ob, rfl, _, rfl, _, _, _, _, rfl, rfl, SqT.of hb, rfl, a, t, y.1, rfl, ht, k1, fun H1 s1 => ?_⟩
    refine ⟨_, rfl, _, _, _, _, rfl, rfl, SqT.of (s1 _ _ hc), rfl, _, _, rfl, rfl, .inl ⟨by omega, by omega⟩, _, rfl, _, _, _, _, rfl, rfl, SqT.of (s1 _ _ hb), rfl, _, rfl, _, _, _, _, rfl, rfl, SqT.of (s1 _ _ hc), rfl, _, _, rfl, rfl, .inl ⟨by omega, by omega⟩, _, _, rfl, rfl, q H1 s1⟩
/-! ### improve -/
theorem scIm : FnScope ["task", "rate", "current", "better", "way", "source", "target", "_"] ["task", "rate", "current"] (defScope sImprove) := ⟨rfl, rfl, rfl, by decide +kernel, rfl, by decide +kernel, by decide +kernel⟩
def spIm (ad : Str → Addr) : Sp := fun vs H Q _ => ∃ (a b c : Addr) (t : Tk) (r : Int × Int) (cur : List Int), vs = [.ref a, .ref b, .ref c] ∧ TkAt ad H a t ∧ WfT t ∧ H b = some (.tup (rV r)) ∧ H c = some (.lst (cur.map V.int)) ∧ cur.length = t.kinds.length ∧
  ∀ H' p, Same H H' → H p = none → H' p = some (.lst ((impM t r cur).map V.int)) → Q (.ref p) H'
theorem T_im (T : Tx K mg ad fd) : Binds K (fd "improve") ["task", "rate", "current"] [] := T.improve.fn.binds fun _ _ _ _ _ _ us hl => match us, hl with | [_, _, _], _ => rfl
theorem ok_im (T : Tx K mg ad fd) : FnOk P w K mg base CX0 4 (ad "improve") (fd "improve") ["task", "rate", "current"] (spIm ad) := by
  refine T.improve.fn.ok scIm (fun vs H Q E h => ?_) (fun cdv A outer s H vs Q E hr h => ?_)
  · obtain ⟨a, b, c, t, r, cur, rfl, _⟩ := h
    rfl
  · obtain ⟨a, b, c, t, r, cur, rfl, ht, wf, hb, hc, hcl, q⟩ := h
    refine ⟨_, pss_cons (ps_setLc (i := 3) (own := [("_", 7)]) (g := gName 7) (tt := tYes) rfl scIm.nd rfl rfl (sw_true rfl rfl rfl (by decide +kernel)) (pi_tup (pe_fld (pv 0) rfl))
        (blkOk_by (own := [("_", 7)]) (N := ["task", "rate", "current", "better", "way", "source", "target", "_"]) (sc := defScope sImprove) (by decide +kernel)) (fun _ _ _ _ _ => pg_name (i := 7) scIm.nd rfl (Or.inl rfl)) (fun _ _ _ _ _ => pts_nil) (fun _ _ _ _ _ => pe_int))
      (pss_cons (ps_for PassesOwn.never rfl (pi_tup (pe_fld (pv 0) rfl)) (pg_name (i := 4) scIm.nd rfl (.inl rfl))
        (pss_cons (ps_set (i := 5) scIm.nd rfl (.inl rfl) (pe_meth (pv 0) T.taskInit.cl T.taskKindNumber.me (ok_kno T) (hr.mono (by decide)) (T_kno T) .nil pass0 (pa_cons (pe_ix ix_tup (pv 4) pe_int (fun _ _ => rfl)) pa_nil)))
        (pss_cons (ps_set (i := 6) scIm.nd rfl (.inl rfl) (pe_meth (pv 0) T.taskInit.cl T.taskKindNumber.me (ok_kno T) (hr.mono (by decide)) (T_kno T) .nil pass0 (pa_cons (pe_ix ix_tup (pv 4) pe_int (fun _ _ => rfl)) pa_nil)))
        (pss_one (ps_asg (pe_callB (call_max2 rfl) (by rfl) T.b_max boot_max (pa_cons (pe_ix ix_list (pv 3) (pv 5) (fun _ _ => rfl)) (pa_cons (pe_op op_add (pe_call (ok_ww T) hr (by rfl) T.wayWeight.gl T.wayWeight.fn.kp (T_ww T) .nil pass0 (pa_cons (pv 0) (pa_cons (pv 4) (pa_cons (pv 1) pa_nil)))) (pe_ix ix_list (pv 2) (pv 6) (fun _ _ => rfl))) pa_nil)))
          (pg_sub (pv 3) (pv 5) set_list))))))
      (pss_one (ps_ret (pv 3)))), ?_⟩
    obtain ⟨dx, ka, wa, kas, was, O⟩ := id ht
    refine ⟨_, rfl, a, _, dx, _, _, rfl, O.ob, T.taskInit.cl, T.nTask_kinds, rfl, ka, rfl, ⟨_, SqT.of O.ko⟩, fun D hD => lc_same (walk_tup (a := ka) (xs := kas.map V.ref)) (fun i v H' => v = .int 0) (fun _ _ _ _ h _ => h) (by rw [List.length_map, O.ks.1]; have := wf.len; omega) hD (fun H' s' => SqT.of (s' _ _ O.ko)) ?_ ?_⟩
    · rintro i v H2 H3 acc Kc hi s2 hD2 ⟨rfl, _⟩ hc
      exact ⟨rfl, hc _ _ (Same.refl _) rfl⟩
    · intro H1 ys s1 h1 h2 h3
      rw [List.length_map, O.ks.1] at h2
      have e0 : ys = (List.replicate t.kinds.length (0 : Int)).map V.int := list_ext_int (by rw [h2, List.length_replicate]) fun i y hy => ⟨0, by
        have := (List.getElem?_eq_some_iff.mp hy).1
        rw [List.getElem?_replicate, if_pos (by omega)], h3 i y hy⟩
      rw [e0] at h1
      have O1 := O.same s1
      refine ⟨_, rfl, a, _, dx, _, _, rfl, O1.ob, T.taskInit.cl, T.nTask_ways, rfl, wa, rfl, ⟨_, SqT.of O1.wo⟩, for_it (walk_tup (a := wa) (xs := was.map V.ref)) (fun i σ H' => ∃ v4 v5 v6, Same H H' ∧ H' D = some (.lst (((t.ways.take i).foldl (impStep t r cur) (List.replicate t.kinds.length 0)).map V.int)) ∧ σ = [some (.ref a), some (.ref b), some (.ref c), some (.ref D), v4, v5, v6, none])
        ⟨none, none, none, s1, h1, rfl⟩ (fun i σ H' _ ⟨_, _, _, s', _⟩ => SqT.of (s' _ _ O.wo)) ?_ ?_⟩
      · rintro i v σ H2 H3 hi ⟨v4, v5, v6, s2, hDo, rfl⟩ ⟨rfl, ev⟩
        have O2 := O.same s2
        obtain ⟨p, wy, rfl, hp, hwy, hpt⟩ := O2.ws.get ev
        have hstep := foldl_take (f := impStep t r cur) (a := List.replicate t.kinds.length (0 : Int)) hwy
        generalize hbb : (t.ways.take i).foldl (impStep t r cur) (List.replicate t.kinds.length 0) = bb at hDo hstep
        have hbl : bb.length = t.kinds.length := by rw [← hbb, impFold_len, List.length_replicate]
        have hmem := List.mem_of_getElem? hwy
        have k1 := wf.src _ hmem
        have k2 := wf.tgt _ hmem
        have l1 : kno t wy.1 < bb.length := by rw [hbl]; exact kno_lt k1
        have l2 : kno t wy.2.1 < cur.length := by rw [hcl]; exact kno_lt k2
        refine ⟨_, rfl, a, dx, _, rfl, O2.ob, rfl, _, rfl, _, _, _, _, rfl, rfl, SqT.of hpt, rfl, a, t, wy.1, rfl, ht.same s2, k1, fun H4 s4 => ?_⟩
        have O4 := O2.same s4
        refine ⟨_, rfl, a, dx, _, rfl, O4.ob, rfl, _, rfl, _, _, _, _, rfl, rfl, SqT.of (s4 _ _ hpt), rfl, a, t, wy.2.1, rfl, (ht.same s2).same s4, k2, fun H5 s5 => ?_⟩
        have s45 := s4.trans s5
        have s25 := s2.trans s45
        refine ⟨_, rfl, _, rfl, _, _, _, .int bb[kno t wy.1], rfl, rfl, SqL.of (s45 _ _ hDo), atI_nat (by rw [List.getElem?_map, List.getElem?_eq_getElem l1]; rfl), _, rfl, _, rfl, _, rfl, a, p, b, t, wy, r, rfl, ht.same s25, wf, hmem, s45 _ _ hpt, s25 _ _ hb, fun H6 s6 => ?_⟩
        have s26 := s25.trans s6
        refine ⟨_, rfl, _, rfl, _, _, _, .int cur[kno t wy.2.1], rfl, rfl, SqL.of (s26 _ _ hc), atI_nat (by rw [List.getElem?_map, List.getElem?_eq_getElem l2]; rfl), _, _, rfl, rfl, _, _, rfl, ?_⟩
        refine ⟨_, rfl, _, rfl, D, _, _, _, rfl, rfl, s6 _ _ (s45 _ _ hDo), ixN_nat (by rw [List.length_map]; exact l1), ?_⟩
        refine ⟨_, _, _, Same.up2 s26 hD, ?_, rfl⟩
        rw [upd_same, ← List.map_set, hstep]
        have e1 : bb.getD (kno t wy.1) 0 = bb[kno t wy.1] := by rw [List.getD_eq_getElem?_getD, List.getElem?_eq_getElem l1]; rfl
        have e2 : cur.getD (kno t wy.2.1) 0 = cur[kno t wy.2.1] := by rw [List.getD_eq_getElem?_getD, List.getElem?_eq_getElem l2]; rfl
        unfold impStep
        rw [e1, e2]
        rfl
      · rintro σ H2 ⟨v4, v5, v6, s2, hDo, rfl⟩
        rw [List.length_map, O.ws.1, List.take_length] at hDo
        exact ⟨_, rfl, q H2 D s2 hD hDo⟩
/-! ### weights -/
theorem scWt : FnScope ["task", "rate", "current", "_"] ["task"] (defScope sWeights) := ⟨rfl, rfl, rfl, by decide +kernel, rfl, by decide +kernel, by decide +kernel⟩
def spWt (ad : Str → Addr) : Sp := fun vs H Q _ => ∃ (a : Addr) (t : Tk), vs = [.ref a] ∧ TkAt ad H a t ∧ WfT t ∧ ∀ H' p, Same H H' → H' p = some (.lst ((wtM t).map V.int)) → Q (.ref p) H'
theorem T_wt (T : Tx K mg ad fd) : Binds K (fd "weights") ["task"] [] := T.weights.fn.binds fun _ _ _ _ _ _ us hl => match us, hl with | [_], _ => rfl
theorem ok_wt (T : Tx K mg ad fd) : FnOk P w K mg base CX0 8 (ad "weights") (fd "weights") ["task"] (spWt ad) := by
  refine T.weights.fn.ok scWt (fun vs H Q E h => ?_) (fun cdv A outer s H vs Q E hr h => ?_)
  · obtain ⟨a, t, rfl, _⟩ := h
    rfl
  · obtain ⟨a, t, rfl, ht, wf, q⟩ := h
    refine ⟨_, pss_cons (ps_set (i := 1) scWt.nd rfl (.inl rfl) (pe_call (ok_sh T) hr (by rfl) T.share.gl T.share.fn.kp (T_sh T) .nil pass0 (pa_cons (pv 0) pa_nil)))
      (pss_cons (ps_setLc (i := 2) (own := [("_", 3)]) (g := gName 3) (tt := tYes) rfl scWt.nd rfl rfl (sw_true rfl rfl rfl (by decide +kernel)) (pi_tup (pe_fld (pv 0) rfl))
        (blkOk_by (own := [("_", 3)]) (N := ["task", "rate", "current", "_"]) (sc := defScope sWeights) (by decide +kernel)) (fun _ _ _ _ _ => pg_name (i := 3) scWt.nd rfl (Or.inl rfl)) (fun _ _ _ _ _ => pts_nil) (fun _ _ _ _ _ => pe_int))
      (pss_cons (ps_for PassesOwn.never rfl (pi_range1 (by rfl) T.b_range (pa_cons (pe_callB call_len_seq (by rfl) T.b_len PySem.boot_len (pa_cons (pe_fld (pv 0) rfl) pa_nil)) pa_nil)) (pg_name (i := 3) scWt.nd rfl (.inl rfl))
        (pss_one (ps_set (i := 2) scWt.nd rfl (.inl rfl) (pe_call (ok_im T) (hr.mono (by decide)) (by rfl) T.improve.gl T.improve.fn.kp (T_im T) .nil pass0 (pa_cons (pv 0) (pa_cons (pv 1) (pa_cons (pv 2) pa_nil)))))))
      (pss_one (ps_ret (pv 2))))), ?_⟩
    obtain ⟨dx, ka, wa, kas, was, O⟩ := id ht
    have hk2 := wf.len
    refine ⟨_, rfl, a, t, rfl, ht, wf, fun H1 pr s1 hpr => ?_⟩
    have O1 := O.same s1
    refine ⟨_, rfl, a, _, dx, _, _, rfl, O1.ob, T.taskInit.cl, T.nTask_kinds, rfl, ka, rfl, ⟨_, SqT.of O1.ko⟩, fun D hD => lc_same (walk_tup (a := ka) (xs := kas.map V.ref)) (fun i v H' => v = .int 0) (fun _ _ _ _ h _ => h) (by rw [List.length_map, O.ks.1]; omega) hD (fun H' s' => SqT.of (s' _ _ O1.ko)) ?_ ?_⟩
    · rintro i v H2 H3 acc Kc hi s2 hD2 ⟨rfl, _⟩ hc
      exact ⟨rfl, hc _ _ (Same.refl _) rfl⟩
    · intro H2 ys s2 h1 h2 h3
      rw [List.length_map, O.ks.1] at h2
      have e0 : ys = (List.replicate t.kinds.length (0 : Int)).map V.int := list_ext_int (by rw [h2, List.length_replicate]) fun i y hy => ⟨0, by
        have := (List.getElem?_eq_some_iff.mp hy).1
        rw [List.getElem?_replicate, if_pos (by omega)], h3 i y hy⟩
      rw [e0] at h1
      have O2 := O1.same s2
      have s02 := s1.trans s2
      refine ⟨_, rfl, a, _, dx, _, _, rfl, O2.ob, T.taskInit.cl, T.nTask_kinds, rfl, ka, _, rfl, .inr (SqT.of O2.ko), _, rfl, (by omega), (by rw [List.length_map, O.ks.1]; omega), ?_⟩
      rw [List.length_map, O.ks.1]
      refine for_range (lo := 0) (n := ((t.kinds.length : Nat) : Int).toNat) (fun i σ H' => ∃ pc v3, Same H2 H' ∧ H' pc = some (.lst ((wtN t i).map V.int)) ∧ σ = [some (.ref a), some (.ref pr), some (.ref pc), v3])
        ⟨D, none, Same.refl _, h1, rfl⟩ ?_ ?_
      · rintro i σ H3 hi ⟨pc, v3, s3, hpc, rfl⟩
        refine ⟨_, rfl, _, rfl, _, rfl, a, pr, pc, t, shareM t, wtN t i, rfl, (ht.same s02).same s3, wf, s3 _ _ (s2 _ _ hpr), hpc, wtN_len t i, fun H4 p s4 _ hpo => ?_⟩
        exact ⟨p, _, s3.trans s4, hpo, rfl⟩
      · rintro σ H3 ⟨pc, v3, s3, hpc, rfl⟩
        exact ⟨_, rfl, q H3 pc (s02.trans s3) hpc⟩
end
end Nl
set_option maxHeartbeats 4000000
namespace Nl
open PySem PySem.Spec PyProof.Rows L2
section
variable {P : Program} {w : World} {K : PySem.W.Frag} {mg : Str → Option Value} {base : Heap} {ad : Str → Addr} {fd : Str → FuncData}
/-! ### linear_bound -/
theorem scLb : FnScope ["task", "top", "bottom", "numbers", "greatest", "extra", "number", "kind"] ["task"] (defScope sLinearBound) := ⟨rfl, rfl, rfl, by decide +kernel, rfl, by decide +kernel, by decide +kernel⟩
def spLb (ad : Str → Addr) : Sp := fun vs H Q _ => ∃ (a : Addr) (t : Tk), vs = [.ref a] ∧ TkAt ad H a t ∧ WfT t ∧ ∀ H' p, Same H H' → H p = none → H' p = some (.tup (tV (lbM t))) → Q (.ref p) H'
theorem T_lb (T : Tx K mg ad fd) : Binds K (fd "linear_bound") ["task"] [] := T.linearBound.fn.binds fun _ _ _ _ _ _ us hl => match us, hl with | [_], _ => rfl
theorem ok_lb (T : Tx K mg ad fd) : FnOk P w K mg base CX0 9 (ad "linear_bound") (fd "linear_bound") ["task"] (spLb ad) := by
  refine T.linearBound.fn.ok scLb (fun vs H Q E h => ?_) (fun cdv A outer s H vs Q E hr h => ?_)
  · obtain ⟨a, t, rfl, _⟩ := h
    rfl
  · obtain ⟨a, t, rfl, ht, wf, q⟩ := h
    refine ⟨_, pss_cons (ps_asg (pe_call (ok_sh T) (hr.mono (by decide)) (by rfl) T.share.gl T.share.fn.kp (T_sh T) .nil pass0 (pa_cons (pv 0) pa_nil)) (pg_tup rfl (pgs_cons (pg_name (i := 1) scLb.nd rfl (.inl rfl)) (pgs_cons (pg_name (i := 2) scLb.nd rfl (.inl rfl)) pgs_nil))))
      (pss_cons (ps_set (i := 3) scLb.nd rfl (.inl rfl) (pe_call (ok_wt T) hr (by rfl) T.weights.gl T.weights.fn.kp (T_wt T) .nil pass0 (pa_cons (pv 0) pa_nil)))
      (pss_cons (ps_set (i := 4) scLb.nd rfl (.inl rfl) (pe_callB (cr_max rfl) (by rfl) T.b_max boot_max (pa_cons (pv 3) pa_nil)))
      (pss_cons (ps_set (i := 5) scLb.nd rfl (.inl rfl) pe_int)
      (pss_cons (ps_for PassesOwn.never rfl (pi_enumT (by rfl) T.b_enumerate (pa_cons (pe_fld (pv 0) rfl) pa_nil)) (pg_tup rfl (pgs_cons (pg_name (i := 6) scLb.nd rfl (.inl rfl)) (pgs_cons (pg_name (i := 7) scLb.nd rfl (.inl rfl)) pgs_nil)))
        (pss_one (ps_set (i := 5) scLb.nd rfl (.inl rfl) (pe_callB (call_max2 rfl) (by rfl) T.b_max boot_max (pa_cons (pv 5) (pa_cons
          (pe_op op_sub (pe_op op_add (pe_op op_sub (pv 4) (pe_ix ix_list (pv 3) (pv 6) (fun _ _ => rfl))) (pe_op op_mul (pv 2) (pe_ix ix_tup (pv 7) pe_int (fun _ _ => rfl)))) (pe_op op_mul (pv 1) (pe_ix ix_tup (pv 7) pe_int (fun _ _ => rfl)))) pa_nil))))))
      (pss_one (ps_ret (pe_tup (pa_cons (pv 1) (pa_cons (pv 5) (pa_cons (pv 2) pa_nil)))))))))), ?_⟩
    obtain ⟨dx, ka, wa, kas, was, O⟩ := id ht
    obtain ⟨r1, r2, r3, r4⟩ := shareM_RB wf
    refine ⟨_, rfl, a, t, rfl, ht, wf, fun H1 p s1 hp => ?_⟩
    refine ⟨p, _, rfl, SqT.of hp, rfl, _, _, rfl, _, _, rfl, rfl, ?_⟩
    refine ⟨_, rfl, a, t, rfl, ht.same s1, wf, fun H2 pn s2 hpn => ?_⟩
    have hwl : (wtM t).length = t.kinds.length := wtN_len t _
    refine ⟨_, rfl, pn, wtM t, rfl, SqL.of hpn, (by rw [hwl]; exact wf.ne), fun m hm hle => ?_⟩
    rw [maxL_eq hm hle]
    have s02 := s1.trans s2
    have O2 := O.same s02
    refine ⟨_, rfl, a, _, dx, _, _, rfl, O2.ob, T.taskInit.cl, T.nTask_kinds, rfl, ka, _, rfl, SqT.of O2.ko, for_it (walk_enumT (a := ka) (xs := kas.map V.ref)) (fun i σ H' => ∃ v6 v7, Same H2 H' ∧ σ = [some (.ref a), some (.int (shareM t).1), some (.int (shareM t).2), some (.ref pn), some (.int (maxL (wtM t))), some (.int (exN t i)), v6, v7])
      ⟨none, none, Same.refl _, rfl⟩ (fun i σ H' _ ⟨_, _, s3, _⟩ => SqT.of (s3 _ _ O2.ko)) ?_ ?_⟩
    · rintro i v σ H3 H4 hi ⟨v6, v7, s3, rfl⟩ ⟨U, y, z, rfl, hU, rfl, ey, ez⟩
      have ez : (kas.map V.ref)[i]? = some z := ez
      obtain ⟨pk, k, rfl, hpk, hk, hkt⟩ := (O2.ks.same s3).get ez
      cases ey
      have s4 : Same H3 (upd H3 U (.tup [.int (i : Nat), .ref pk])) := Same.up hU
      have s34 := s3.trans s4
      have hil : i < (wtM t).length := by rw [hwl]; exact (List.getElem?_eq_some_iff.mp hk).1
      have ek : kdAt t i = k := by unfold kdAt; rw [List.getD_eq_getElem?_getD, hk]; rfl
      have ew : (wtM t).getD i 0 = (wtM t)[i] := by rw [List.getD_eq_getElem?_getD, List.getElem?_eq_getElem hil]; rfl
      refine ⟨_, _, rfl, SqT.of upd_same, rfl, _, _, rfl, _, _, rfl, rfl, ?_⟩
      refine ⟨_, rfl, _, rfl, _, rfl, _, rfl, _, _, _, .int (wtM t)[i], rfl, rfl, SqL.of (s34 _ _ hpn), atI_nat (by rw [List.getElem?_map, List.getElem?_eq_getElem hil]; rfl), _, _, rfl, rfl,
        _, rfl, _, rfl, _, _, _, _, rfl, rfl, SqT.of (s4 _ _ hkt), rfl, _, _, rfl, rfl, .inl ⟨by omega, by omega⟩, _, _, rfl, rfl, _, rfl, _, rfl, _, _, _, _, rfl, rfl, SqT.of (s4 _ _ hkt), rfl, _, _, rfl, rfl, .inl ⟨by omega, by omega⟩, _, _, rfl, rfl, _, _, rfl, ?_⟩
      refine ⟨some (.int (i : Nat)), some (.ref pk), s34, ?_⟩
      have e : exN t (i + 1) = mx (exN t i) (maxL (wtM t) - (wtM t)[i] + (shareM t).2 * k.2.1 - (shareM t).1 * k.2.2) := by rw [← ew, ← ek]; rfl
      rw [e]
      rfl
    · rintro σ H3 ⟨v6, v7, s3, rfl⟩
      refine ⟨_, rfl, _, rfl, _, rfl, (by show 3 ≤ sizeLine; decide), fun p3 hp3 => ?_⟩
      refine q _ p3 ((s02.trans s3).trans (Same.up hp3)) ((s02.trans s3).free hp3) ?_
      rw [upd_same, List.length_map, O.ks.1]
      rfl
/-! ### system_bound -/
theorem scSb : FnScope ["system", "bounds", "scale", "bound", "top", "extra", "task"] ["system"] (defScope sSystemBound) := ⟨rfl, rfl, rfl, by decide +kernel, rfl, by decide +kernel, by decide +kernel⟩
def spSb (ad : Str → Addr) : Sp := fun vs H Q _ => ∃ (a : Addr) (ts : List Tk) (tbl : List Int), vs = [.ref a] ∧ SyAt ad H a ts tbl ∧ (∀ t ∈ ts, WfT t) ∧ ts.length ≤ 4 ∧ ∀ H' p, Same H H' → H' p = some (.tup (tV (sbM ts))) → Q (.ref p) H'
theorem T_sb (T : Tx K mg ad fd) : Binds K (fd "system_bound") ["system"] [] := T.systemBound.fn.binds fun _ _ _ _ _ _ us hl => match us, hl with | [_], _ => rfl
theorem ok_sb (T : Tx K mg ad fd) : FnOk P w K mg base CX0 10 (ad "system_bound") (fd "system_bound") ["system"] (spSb ad) := by
  refine T.systemBound.fn.ok scSb (fun vs H Q E h => ?_) (fun cdv A outer s H vs Q E hr h => ?_)
  · obtain ⟨a, ts, tbl, rfl, _⟩ := h
    rfl
  · obtain ⟨a, ts, tbl, rfl, hs, wf, hl4, q⟩ := h
    refine ⟨_, pss_cons (ps_setLc (i := 1) (own := [("task", 6)]) (g := gName 6) (tt := tYes) rfl scSb.nd rfl rfl (sw_true rfl rfl rfl (by decide +kernel)) (pi_tup (pe_fld (pv 0) rfl))
        (blkOk_by (own := [("task", 6)]) (N := ["system", "bounds", "scale", "bound", "top", "extra", "task"]) (sc := defScope sSystemBound) (by decide +kernel)) (fun _ _ _ _ _ => pg_name (i := 6) scSb.nd rfl (Or.inl rfl)) (fun _ _ _ _ _ => pts_nil)
        (fun _ _ _ _ _ => pe_call (ok_lb T) hr (by rfl) T.linearBound.gl T.linearBound.fn.kp (T_lb T) .nil pass0 (pa_cons (pv 6) pa_nil)))
      (pss_cons (ps_set (i := 2) scSb.nd rfl (.inl rfl) pe_int)
      (pss_cons (ps_for PassesOwn.never rfl (pi_list (pv 1)) (pg_name (i := 3) scSb.nd rfl (.inl rfl)) (pss_one (ps_aug (i := 2) scSb.nd rfl (.inl rfl) (pe_ix ix_tup (pv 3) pe_int (fun _ _ => rfl)) iop_mul)))
      (pss_cons (ps_set (i := 4) scSb.nd rfl (.inl rfl) pe_int)
      (pss_cons (ps_set (i := 5) scSb.nd rfl (.inl rfl) pe_int)
      (pss_cons (ps_for PassesOwn.never rfl (pi_list (pv 1)) (pg_name (i := 3) scSb.nd rfl (.inl rfl))
        (pss_cons (ps_aug (i := 4) scSb.nd rfl (.inl rfl) (pe_op op_mul (pe_ix ix_tup (pv 3) pe_int (fun _ _ => rfl)) (pe_op op_fdiv (pv 2) (pe_ix ix_tup (pv 3) pe_int (fun _ _ => rfl)))) ip_add)
        (pss_one (ps_aug (i := 5) scSb.nd rfl (.inl rfl) (pe_op op_mul (pe_ix ix_tup (pv 3) pe_int (fun _ _ => rfl)) (pe_op op_fdiv (pv 2) (pe_ix ix_tup (pv 3) pe_int (fun _ _ => rfl)))) ip_add))))
      (pss_one (ps_ret (pe_tup (pa_cons (pv 4) (pa_cons (pv 5) (pa_cons (pv 2) pa_nil))))))))))), ?_⟩
    obtain ⟨dx, ta, tb, tas, O⟩ := id hs
    have hta : (tas.map V.ref).length = ts.length := by rw [List.length_map, O.len]
    refine ⟨_, rfl, a, _, dx, _, _, rfl, O.ob, T.systemInit.cl, T.nSystem_tasks, rfl, ta, rfl, ⟨_, SqT.of O.to⟩, fun D hD => lc_same (walk_tup (a := ta) (xs := tas.map V.ref)) (fun i v H' => ∃ t p, ts[i]? = some t ∧ v = .ref p ∧ H' p = some (.tup (tV (lbM t))) ∧ p ≠ D)
      (fun i v H H' ⟨t, p, h1, h2, h3, h4⟩ k => ⟨t, p, h1, h2, k _ _ h4 h3, h4⟩) (by rw [hta]; omega) hD (fun H' s' => SqT.of (s' _ _ O.to)) ?_ ?_⟩
    · rintro i v H2 H3 acc Kc hi s2 hD2 ⟨rfl, ev⟩ hc
      obtain ⟨p, t, rfl, ht, htk⟩ := (O.same s2).at ev
      refine ⟨rfl, _, rfl, p, t, rfl, htk, wf t (List.mem_of_getElem? ht), fun H4 pb s4 hpb hpo => ?_⟩
      exact hc _ _ s4 ⟨t, pb, ht, rfl, hpo, (ne_of_none hD2 hpb).symm⟩
    · intro H1 ys s1 h1 h2 h3
      rw [hta] at h2
      obtain ⟨as, rfl, hT⟩ := tups_of (f := tV) (H := H1) (ys := ys) (xs := ts.map lbM) (by rw [List.length_map]; exact h2) fun i x y hx hy => by
        obtain ⟨t, p, e1, e2, e3, e4⟩ := h3 i y hy
        rw [List.getElem?_map, e1] at hx
        cases hx
        exact ⟨p, e2, e3⟩
      have hbl : (as.map V.ref).length = (ts.map lbM).length := by rw [List.length_map, hT.1]
      have hB : ∀ b ∈ ts.map lbM, BB b := fun b hb => by
        obtain ⟨t, h1, rfl⟩ := List.mem_map.mp hb
        exact lbM_BB (wf t h1)
      have hb1 : ∀ b ∈ ts.map lbM, b.1 ≤ 8 := fun b hb => by
        obtain ⟨t, h1, rfl⟩ := List.mem_map.mp hb
        exact (shareM_RB (wf t h1)).2.1
      obtain ⟨sb1, sb2, sb3⟩ := sb_bounds wf hl4
      have sb1 : 1 ≤ scM (ts.map lbM) := sb1
      have sb2 : scM (ts.map lbM) ≤ 20736 := sb2
      generalize hbs : ts.map lbM = bs at *
      refine ⟨_, rfl, D, rfl, ⟨_, SqL.of h1⟩, for_it (walk_list (a := D) (xs := as.map V.ref)) (fun i σ H' => ∃ v3, H' = H1 ∧ σ = [some (.ref a), some (.ref D), some (.int (scM (bs.take i))), v3, none, none, none])
        ⟨none, rfl, rfl⟩ (fun i σ H' _ ⟨_, e, _⟩ => by rw [e]; exact SqL.of h1) ?_ ?_⟩
      · rintro i v σ H2 H3 hi ⟨v3, rfl, rfl⟩ ⟨rfl, ev⟩
        obtain ⟨p, b, rfl, hp, hb, hpo⟩ := hT.get ev
        have hbb := hB b (List.mem_of_getElem? hb)
        have hstep : scM (bs.take (i + 1)) = scM (bs.take i) * b.2.2 := foldl_take (f := fun s (b : Int × Int × Int) => s * b.2.2) hb
        refine ⟨_, rfl, _, rfl, _, _, _, _, rfl, rfl, SqT.of hpo, rfl, _, _, rfl, rfl, .inr ⟨by have := hbb.2.1; omega, by have := hbb.2.2; omega⟩, ?_⟩
        exact ⟨_, rfl, by rw [hstep]; rfl⟩
      · rintro σ H2 ⟨v3, rfl, rfl⟩
        rw [hbl, List.take_length]
        refine ⟨_, rfl, D, rfl, ⟨_, SqL.of h1⟩, for_it (walk_list (a := D) (xs := as.map V.ref)) (fun i σ H' => ∃ v3, H' = H2 ∧ σ = [some (.ref a), some (.ref D), some (.int (scM bs)), v3, some (.int (tpM (bs.take i) (scM bs))), some (.int (xtM (bs.take i) (scM bs))), none])
          ⟨v3, rfl, rfl⟩ (fun i σ H' _ ⟨_, e, _⟩ => by rw [e]; exact SqL.of h1) ?_ ?_⟩
        · rintro i v σ H3 H4 hi ⟨v3, rfl, rfl⟩ ⟨rfl, ev⟩
          obtain ⟨p, b, rfl, hp, hb, hpo⟩ := hT.get ev
          have hbb := hB b (List.mem_of_getElem? hb)
          have hb8 := hb1 b (List.mem_of_getElem? hb)
          obtain ⟨g1, g2, g3⟩ := hbb
          have e1 : tpM (bs.take (i + 1)) (scM bs) = tpM (bs.take i) (scM bs) + b.1 * (scM bs / b.2.2) := foldl_take (f := fun s (b : Int × Int × Int) => s + b.1 * (scM bs / b.2.2)) hb
          have e2 : xtM (bs.take (i + 1)) (scM bs) = xtM (bs.take i) (scM bs) + b.2.1 * (scM bs / b.2.2) := foldl_take (f := fun s (b : Int × Int × Int) => s + b.2.1 * (scM bs / b.2.2)) hb
          have d1 : 0 ≤ scM bs / b.2.2 := Int.ediv_nonneg (by omega) (by omega)
          have d2 : scM bs / b.2.2 ≤ scM bs := Int.ediv_le_self _ (by omega)
          generalize hd : scM bs / b.2.2 = d at d1 d2 e1 e2
          refine ⟨_, rfl, _, rfl, _, _, _, _, rfl, rfl, SqT.of hpo, rfl, _, rfl, _, rfl, _, _, _, _, rfl, rfl, SqT.of hpo, rfl, _, _, rfl, rfl, ⟨by omega, by omega⟩, _, _, rfl, rfl, .inl ⟨by omega, by omega⟩, _, _, rfl, rfl, ?_⟩
          refine ⟨_, rfl, _, rfl, _, _, _, _, rfl, rfl, SqT.of hpo, rfl, _, rfl, _, rfl, _, _, _, _, rfl, rfl, SqT.of hpo, rfl, _, _, rfl, rfl, ⟨by omega, by omega⟩, _, _, rfl, rfl, .inr ⟨by rw [hd]; omega, by rw [hd]; omega⟩, _, _, rfl, rfl, ?_⟩
          refine ⟨some (.ref p), rfl, ?_⟩
          rw [e1, e2, ← hd]
          rfl
        · rintro σ H3 ⟨v3, rfl, rfl⟩
          rw [hbl, List.take_length]
          refine ⟨_, rfl, _, rfl, _, rfl, (by show 3 ≤ sizeLine; decide), fun p3 hp3 => ?_⟩
          refine q _ p3 (s1.trans (Same.up hp3)) ?_
          rw [upd_same]
          unfold sbM
          rw [hbs]
          rfl
/-! ### decisive_horizon -/
theorem scDh : FnScope ["system", "period", "whole", "top", "extra", "bottom", "gain", "loss"] ["system"] (defScope sDecisiveHorizon) := ⟨rfl, rfl, rfl, by decide +kernel, rfl, by decide +kernel, by decide +kernel⟩
def optV : Option Int → V
  | none => .non
  | some i => .int i
def spDh (ad : Str → Addr) : Sp := fun vs H Q _ => ∃ (a : Addr) (ts : List Tk) (tbl : List Int), vs = [.ref a] ∧ SyAt ad H a ts tbl ∧ (∀ t ∈ ts, WfT t) ∧ ts.length ≤ 4 ∧ WfB tbl ∧ ∀ H', Same H H' → Q (optV (dhM ts tbl)) H'
theorem T_dh (T : Tx K mg ad fd) : Binds K (fd "decisive_horizon") ["system"] [] := T.decisiveHorizon.fn.binds fun _ _ _ _ _ _ us hl => match us, hl with | [_], _ => rfl
theorem ok_dh (T : Tx K mg ad fd) : FnOk P w K mg base CX0 11 (ad "decisive_horizon") (fd "decisive_horizon") ["system"] (spDh ad) := by
  refine T.decisiveHorizon.fn.ok scDh (fun vs H Q E h => ?_) (fun cdv A outer s H vs Q E hr h => ?_)
  · obtain ⟨a, ts, tbl, rfl, _⟩ := h
    rfl
  · obtain ⟨a, ts, tbl, rfl, hs, wf, hl4, wb, q⟩ := h
    refine ⟨_, pss_cons (ps_set (i := 1) scDh.nd rfl (.inl rfl) (pe_callB call_len_seq (by rfl) T.b_len PySem.boot_len (pa_cons (pe_fld (pv 0) rfl) pa_nil)))
      (pss_cons (ps_set (i := 2) scDh.nd rfl (.inl rfl) (pe_callB (cr_sumT rfl) (by rfl) T.b_sum boot_sum (pa_cons (pe_fld (pv 0) rfl) pa_nil)))
      (pss_cons (ps_asg (pe_call (ok_sb T) hr (by rfl) T.systemBound.gl T.systemBound.fn.kp (T_sb T) .nil pass0 (pa_cons (pv 0) pa_nil)) (pg_tup rfl (pgs_cons (pg_name (i := 3) scDh.nd rfl (.inl rfl)) (pgs_cons (pg_name (i := 4) scDh.nd rfl (.inl rfl)) (pgs_cons (pg_name (i := 5) scDh.nd rfl (.inl rfl)) pgs_nil)))))
      (pss_cons (ps_set (i := 6) scDh.nd rfl (.inl rfl) (pe_op op_sub (pe_op op_mul (pv 2) (pv 5)) (pe_op op_mul (pv 3) (pv 1))))
      (pss_cons (ps_if (pt_cmpR op_le (pv 6) pe_int (nomark _)) (pss_one (ps_ret pe_non)) pss_nil)
      (pss_cons (ps_set (i := 7) scDh.nd rfl (.inl rfl) (pe_op op_add (pe_op op_mul (pv 4) (pv 1)) (pe_op op_mul (pe_op op_mul (pv 2) (pv 5)) (pe_op op_sub (pv 1) pe_int))))
      (pss_one (ps_ret (pe_op op_add (pe_op op_sub (pv 1) pe_int) (pe_op op_fdiv (pe_callB (call_max2 rfl) (by rfl) T.b_max boot_max (pa_cons pe_int (pa_cons (pe_op op_sub (pv 7) pe_int) pa_nil))) (pv 6)))))))))), ?_⟩
    obtain ⟨dx, ta, tb, tas, O⟩ := id hs
    have hw := wb.sum
    have hlen := wb.len
    have hne := wb.ne
    obtain ⟨sb1, sb2, sb3⟩ := sb_bounds wf hl4
    have hgle := gain_le wf hl4 wb
    refine ⟨_, rfl, a, _, dx, _, _, rfl, O.ob, T.systemInit.cl, T.nSystem_table, rfl, tb, _, rfl, .inr (SqT.of O.bo), ?_⟩
    rw [List.length_map]
    refine ⟨_, rfl, a, _, dx, _, _, rfl, O.ob, T.systemInit.cl, T.nSystem_table, rfl, tb, tbl, rfl, SqT.of O.bo, ?_⟩
    refine ⟨_, rfl, a, ts, tbl, rfl, hs, wf, hl4, fun H1 p s1 hp => ?_⟩
    refine ⟨p, _, rfl, SqT.of hp, rfl, _, _, rfl, _, _, rfl, _, _, rfl, rfl, ?_⟩
    refine ⟨_, rfl, _, rfl, _, _, rfl, rfl, .inl ⟨by omega, by omega⟩, _, rfl, _, rfl, _, _, rfl, rfl, .inr ⟨by omega, by omega⟩, _, _, rfl, rfl, ?_⟩
    refine ⟨_, rfl, _, _, rfl, rfl, _, rfl, ite2 (fun c => ?_) (fun c => ?_)⟩
    · have c1 : gainM ts tbl ≤ 0 := of_decide_eq_true c
      have e : dhM ts tbl = none := if_pos c1
      rw [e] at q
      exact q H1 s1
    · have c1 : ¬ gainM ts tbl ≤ 0 := fun z => c (decide_eq_true z)
      have e : dhM ts tbl = _ := if_neg c1
      rw [e] at q
      refine ⟨_, rfl, _, rfl, _, _, rfl, rfl, .inr ⟨by omega, by omega⟩, _, rfl, _, rfl, _, _, rfl, rfl, .inl ⟨by omega, by omega⟩, _, rfl, _, _, rfl, rfl, _, _, rfl, rfl, .inr ⟨by omega, by omega⟩, _, _, rfl, rfl, ?_⟩
      refine ⟨_, rfl, _, _, rfl, rfl, _, rfl, _, _, rfl, rfl, _, _, rfl, _, rfl, _, _, rfl, rfl, ⟨by show 0 < gainM ts tbl; omega, by show gainM ts tbl < _; omega⟩, _, _, rfl, rfl, q H1 s1⟩
end
end Nl
set_option maxHeartbeats 4000000
namespace Nl
open PySem PySem.Spec PyProof.Rows L2
def maxL0 (l : List Int) : Int := if l.length = 0 then 0 else maxL l
theorem maxL0_eq {l : List Int} {m : Int} (h : m ∈ l) (hm : ∀ y ∈ l, y ≤ m) : m = maxL0 l := by
  unfold maxL0
  rw [if_neg (by have := List.length_pos_of_mem h; omega)]
  exact maxL_eq h hm
theorem maxL_mem {l : List Int} (h : l ≠ []) : maxL l ∈ l := by
  obtain ⟨h1, h2, h3⟩ := foldl_mx l (l.headD 0)
  rcases h3 with e | e
  · show l.foldl mx _ ∈ l
    rw [e]
    cases l with
    | nil => exact absurd rfl h
    | cons a l => simp
  · exact e
theorem maxL0_bounds {l : List Int} {B : Int} (hB : 0 ≤ B) (h : ∀ y ∈ l, 0 ≤ y ∧ y ≤ B) : 0 ≤ maxL0 l ∧ maxL0 l ≤ B := by
  unfold maxL0
  split
  · exact ⟨by decide, hB⟩
  · rename_i hl
    exact h _ (maxL_mem fun e => hl (by rw [e]; rfl))
def ldM (t : Tk) : Int := maxL0 (t.ways.map fun w => w.2.2)
def deadM (t : Tk) : Int := maxL (t.kinds.map fun k => k.2.2)
def gdM (ts : List Tk) : Int := maxL0 (ts.map deadM)
def gsM (ts : List Tk) : Int := maxL0 (ts.map ldM)
theorem ldM_bounds {t : Tk} (wf : WfT t) : 0 ≤ ldM t ∧ ldM t ≤ 6 := maxL0_bounds (by decide) fun y hy => by
  obtain ⟨w, h1, rfl⟩ := List.mem_map.mp hy
  have := wf.dist w h1
  omega
theorem deadM_bounds {t : Tk} (wf : WfT t) : 0 ≤ deadM t ∧ deadM t ≤ 9 := by
  have hn : t.kinds.map (fun k => k.2.2) ≠ [] := fun e => by
    have := wf.ne
    have := congrArg List.length e
    rw [List.length_map, List.length_nil] at this
    omega
  obtain ⟨k, h1, h2⟩ := List.mem_map.mp (maxL_mem hn)
  have := wf.dead k h1
  unfold deadM
  omega
theorem gsM_bounds {ts : List Tk} (wf : ∀ t ∈ ts, WfT t) : 0 ≤ gsM ts ∧ gsM ts ≤ 6 := maxL0_bounds (by decide) fun y hy => by
  obtain ⟨t, h1, rfl⟩ := List.mem_map.mp hy
  exact ldM_bounds (wf t h1)
theorem gdM_bounds {ts : List Tk} (wf : ∀ t ∈ ts, WfT t) : 0 ≤ gdM ts ∧ gdM ts ≤ 9 := maxL0_bounds (by decide) fun y hy => by
  obtain ⟨t, h1, rfl⟩ := List.mem_map.mp hy
  exact deadM_bounds (wf t h1)
def rgRow (up lo : List Int) : Nat → Int → Int
  | 0, g => g
  | j + 1, g => mx (rgRow up lo j g) (up.getD j 0 - lo.getD j 0)
def rgN (rs : List (List Int)) (len step nk : Nat) : Nat → Int
  | 0 => 0
  | b + 1 => rgRow (rs.getD (len - b) []) (rs.getD (len - b - step) []) nk (rgN rs len step nk b)
def grM (ts : List Tk) (hor p cnt step : Nat) : Int := ts.foldl (fun g t => g + rgN (rowsN t (hor + 1)) (hor - p) step t.kinds.length cnt) 0
def crM (ts : List Tk) (tbl : List Int) (step hor : Nat) : Bool :=
  if step < 1 ∨ step % tbl.length ≠ 0 then false else if (hor : Int) < gdM ts + gsM ts + tbl.length + step then false
  else decide (grM ts hor tbl.length (gsM ts).toNat step ≤ tbl.sum * ((step / tbl.length : Nat) : Int))
def rosize (p h : Nat) : Nat := (Builtin.Range.rangeSize p ((h : Int) + 1) p).toNat
def roM (ts : List Tk) (tbl : List Int) (h : Nat) : Bool := (List.range (rosize tbl.length h)).any fun k => crM ts tbl (tbl.length + k * tbl.length) h
def dcM (ts : List Tk) (tbl : List Int) (h : Nat) : Bool := if ts.length = 0 then true else match dhM ts tbl with
  | some d => if d ≤ (h : Int) then true else roM ts tbl h
  | none => roM ts tbl h
theorem rgc_step {p h : Nat} (h1 : 1 ≤ p) (h3 : p ≤ 3) (hh : h ≤ 1000) : RgC (p : Int) ((h : Int) + 1) (p : Int) (rosize p h) := by
  have hp : p = 1 ∨ p = 2 ∨ p = 3 := by omega
  have hn : 0 ≤ Builtin.Range.rangeSize p ((h : Int) + 1) p := by
    unfold Builtin.Range.rangeSize
    rcases hp with e | e | e <;> subst e <;> simp only [show ((1 : Nat) : Int) > 0 by decide, show ((2 : Nat) : Int) > 0 by decide, show ((3 : Nat) : Int) > 0 by decide, if_true] <;> split <;> omega
  refine ⟨by omega, by omega, ?_, by unfold rosize; omega⟩
  unfold Builtin.Range.small
  have hb : Builtin.Range.rangeSize p ((h : Int) + 1) p ≤ 2000 := by
    unfold Builtin.Range.rangeSize
    rcases hp with e | e | e <;> subst e <;> simp only [show ((1 : Nat) : Int) > 0 by decide, show ((2 : Nat) : Int) > 0 by decide, show ((3 : Nat) : Int) > 0 by decide, if_true] <;> split <;> omega
  generalize Builtin.Range.rangeSize p ((h : Int) + 1) p = n at *
  simp only [Builtin.Range.rangeFitsLong, Bool.and_eq_true, Bool.or_eq_true, decide_eq_true_eq, beq_iff_eq, show ((p : Int) > 0) by omega, if_true]
  omega
section
variable {P : Program} {w : World} {K : PySem.W.Frag} {mg : Str → Option Value} {base : Heap} {ad : Str → Addr} {fd : Str → FuncData}
/-! ### Task.longest_distance, Task.latest_deadline -/
theorem scLd : FnScope ["self", "way"] ["self"] (defScope sTaskLongestDistance) := ⟨rfl, rfl, rfl, by decide +kernel, rfl, by decide +kernel, by decide +kernel⟩
def spTk (ad : Str → Addr) (f : Tk → Int) : Sp := fun vs H Q _ => ∃ (a : Addr) (t : Tk), vs = [.ref a] ∧ TkAt ad H a t ∧ WfT t ∧ ∀ H', Same H H' → Q (.int (f t)) H'
theorem T_ld (T : Tx K mg ad fd) : Binds K (fd "Task.longest_distance") ["self"] [] := T.fDist.binds fun _ _ _ _ _ _ us hl => match us, hl with | [_], _ => rfl
theorem ok_ld (T : Tx K mg ad fd) : FnOk P w K mg base CX0 1 (ad "Task.longest_distance") (fd "Task.longest_distance") ["self"] (spTk ad ldM) := by
  refine T.fDist.ok scLd (fun vs H Q E h => ?_) (fun cdv A outer s H vs Q E hr h => ?_)
  · obtain ⟨a, t, rfl, _⟩ := h
    rfl
  · obtain ⟨a, t, rfl, ht, wf, q⟩ := h
    refine ⟨_, pss_one (ps_ret (pe_callBK (cr_maxD rfl) (by rfl) T.b_max boot_max (pa_cons (pe_lc (own := [("way", 1)]) (g := gName 1) (tt := tYes) rfl scLd.nd (pi_tup (pe_fld (pv 0) rfl))
      (blkOk_by (own := [("way", 1)]) (N := ["self", "way"]) (sc := defScope sTaskLongestDistance) (by decide +kernel)) (fun _ _ _ _ _ => pg_name (i := 1) scLd.nd rfl (Or.inl rfl)) (fun _ _ _ _ _ => pts_nil)
      (fun _ _ _ _ _ => pe_ix (ixT K) (pv 1) pe_int (fun _ _ => rfl))) pa_nil) (pk_cons pe_int pk_nil))), ?_⟩
    obtain ⟨dx, ka, wa, kas, was, O⟩ := id ht
    have hwl : (was.map V.ref).length = t.ways.length := by rw [List.length_map, O.ws.1]
    refine ⟨_, rfl, a, _, dx, _, _, rfl, O.ob, T.taskInit.cl, T.nTask_ways, rfl, wa, rfl, ⟨_, SqT.of O.wo⟩, fun D hD => lc_same (walk_tup (a := wa) (xs := was.map V.ref)) (fun i v H' => ∃ x, (t.ways.map fun w => w.2.2)[i]? = some x ∧ v = .int x) (fun _ _ _ _ h _ => h) (by rw [hwl]; have := wf.wlen; omega) hD (fun H' s' => SqT.of (s' _ _ O.wo)) ?_ ?_⟩
    · rintro i v H2 H3 acc Kc hi s2 hD2 ⟨rfl, ev⟩ hc
      obtain ⟨p, y, rfl, hp, hy, hpt⟩ := (O.ws.same s2).get ev
      exact ⟨rfl, _, rfl, _, _, _, _, rfl, rfl, SqT.of hpt, rfl, hc _ _ (Same.refl _) ⟨y.2.2, by rw [List.getElem?_map, hy]; rfl, rfl⟩⟩
    · intro H1 ys s1 h1 h2 h3
      have e : ys = (t.ways.map fun w => w.2.2).map V.int := list_ext_int (by rw [h2, hwl, List.length_map]) h3
      rw [e] at h1
      refine ⟨D, t.ways.map fun w => w.2.2, 0, rfl, rfl, SqL.of h1, fun e0 => ?_, fun m hm hle => ?_⟩
      · have e1 : ldM t = 0 := by unfold ldM; rw [e0]; rfl
        rw [e1] at q
        exact q H1 s1
      · rw [maxL0_eq hm hle]
        exact q H1 s1
theorem scDl : FnScope ["self", "kind"] ["self"] (defScope sTaskLatestDeadline) := ⟨rfl, rfl, rfl, by decide +kernel, rfl, by decide +kernel, by decide +kernel⟩
theorem T_dl (T : Tx K mg ad fd) : Binds K (fd "Task.latest_deadline") ["self"] [] := T.fDead.binds fun _ _ _ _ _ _ us hl => match us, hl with | [_], _ => rfl
theorem ok_dl (T : Tx K mg ad fd) : FnOk P w K mg base CX0 1 (ad "Task.latest_deadline") (fd "Task.latest_deadline") ["self"] (spTk ad deadM) := by
  refine T.fDead.ok scDl (fun vs H Q E h => ?_) (fun cdv A outer s H vs Q E hr h => ?_)
  · obtain ⟨a, t, rfl, _⟩ := h
    rfl
  · obtain ⟨a, t, rfl, ht, wf, q⟩ := h
    refine ⟨_, pss_one (ps_ret (pe_callB (cr_max rfl) (by rfl) T.b_max boot_max (pa_cons (pe_lc (own := [("kind", 1)]) (g := gName 1) (tt := tYes) rfl scDl.nd (pi_tup (pe_fld (pv 0) rfl))
      (blkOk_by (own := [("kind", 1)]) (N := ["self", "kind"]) (sc := defScope sTaskLatestDeadline) (by decide +kernel)) (fun _ _ _ _ _ => pg_name (i := 1) scDl.nd rfl (Or.inl rfl)) (fun _ _ _ _ _ => pts_nil)
      (fun _ _ _ _ _ => pe_ix (ixT K) (pv 1) pe_int (fun _ _ => rfl))) pa_nil))), ?_⟩
    obtain ⟨dx, ka, wa, kas, was, O⟩ := id ht
    have hwl : (kas.map V.ref).length = t.kinds.length := by rw [List.length_map, O.ks.1]
    refine ⟨_, rfl, a, _, dx, _, _, rfl, O.ob, T.taskInit.cl, T.nTask_kinds, rfl, ka, rfl, ⟨_, SqT.of O.ko⟩, fun D hD => lc_same (walk_tup (a := ka) (xs := kas.map V.ref)) (fun i v H' => ∃ x, (t.kinds.map fun k => k.2.2)[i]? = some x ∧ v = .int x) (fun _ _ _ _ h _ => h) (by rw [hwl]; have := wf.len; omega) hD (fun H' s' => SqT.of (s' _ _ O.ko)) ?_ ?_⟩
    · rintro i v H2 H3 acc Kc hi s2 hD2 ⟨rfl, ev⟩ hc
      obtain ⟨p, y, rfl, hp, hy, hpt⟩ := (O.ks.same s2).get ev
      exact ⟨rfl, _, rfl, _, _, _, _, rfl, rfl, SqT.of hpt, rfl, hc _ _ (Same.refl _) ⟨y.2.2, by rw [List.getElem?_map, hy]; rfl, rfl⟩⟩
    · intro H1 ys s1 h1 h2 h3
      have e : ys = (t.kinds.map fun k => k.2.2).map V.int := list_ext_int (by rw [h2, hwl, List.length_map]) h3
      rw [e] at h1
      refine ⟨D, t.kinds.map fun k => k.2.2, rfl, SqL.of h1, by rw [List.length_map]; exact wf.ne, fun m hm hle => ?_⟩
      rw [maxL_eq hm hle]
      exact q H1 s1
/-! ### greatest_deadline, greatest_distance -/
def spSy (ad : Str → Addr) (f : List Tk → Int) : Sp := fun vs H Q _ => ∃ (a : Addr) (ts : List Tk) (tbl : List Int), vs = [.ref a] ∧ SyAt ad H a ts tbl ∧ (∀ t ∈ ts, WfT t) ∧ ts.length ≤ 100 ∧ ∀ H', Same H H' → Q (.int (f ts)) H'
theorem scGd : FnScope ["system", "task"] ["system"] (defScope sGreatestDeadline) := ⟨rfl, rfl, rfl, by decide +kernel, rfl, by decide +kernel, by decide +kernel⟩
theorem T_gd (T : Tx K mg ad fd) : Binds K (fd "greatest_deadline") ["system"] [] := T.greatestDeadline.fn.binds fun _ _ _ _ _ _ us hl => match us, hl with | [_], _ => rfl
theorem ok_gd (T : Tx K mg ad fd) : FnOk P w K mg base CX0 3 (ad "greatest_deadline") (fd "greatest_deadline") ["system"] (spSy ad gdM) := by
  refine T.greatestDeadline.fn.ok scGd (fun vs H Q E h => ?_) (fun cdv A outer s H vs Q E hr h => ?_)
  · obtain ⟨a, ts, tbl, rfl, _⟩ := h
    rfl
  · obtain ⟨a, ts, tbl, rfl, hs, wf, hl, q⟩ := h
    refine ⟨_, pss_one (ps_ret (pe_callBK (cr_maxD rfl) (by rfl) T.b_max boot_max (pa_cons (pe_lc (own := [("task", 1)]) (g := gName 1) (tt := tYes) rfl scGd.nd (pi_tup (pe_fld (pv 0) rfl))
      (blkOk_by (own := [("task", 1)]) (N := ["system", "task"]) (sc := defScope sGreatestDeadline) (by decide +kernel)) (fun _ _ _ _ _ => pg_name (i := 1) scGd.nd rfl (Or.inl rfl)) (fun _ _ _ _ _ => pts_nil)
      (fun _ _ _ _ _ => pe_prop (pv 1) T.taskInit.cl T.pDead (ok_dl T) hr (T_dl T) .nil pass0 rfl)) pa_nil) (pk_cons pe_int pk_nil))), ?_⟩
    obtain ⟨dx, ta, tb, tas, O⟩ := id hs
    have hwl : (tas.map V.ref).length = ts.length := by rw [List.length_map, O.len]
    refine ⟨_, rfl, a, _, dx, _, _, rfl, O.ob, T.systemInit.cl, T.nSystem_tasks, rfl, ta, rfl, ⟨_, SqT.of O.to⟩, fun D hD => lc_same (walk_tup (a := ta) (xs := tas.map V.ref)) (fun i v H' => ∃ x, (ts.map deadM)[i]? = some x ∧ v = .int x) (fun _ _ _ _ h _ => h) (by rw [hwl]; omega) hD (fun H' s' => SqT.of (s' _ _ O.to)) ?_ ?_⟩
    · rintro i v H2 H3 acc Kc hi s2 hD2 ⟨rfl, ev⟩ hc
      obtain ⟨p, t, rfl, ht, htk⟩ := (O.same s2).at ev
      obtain ⟨tdx, ka, wa, kas, was, Ot⟩ := id htk
      exact ⟨rfl, _, rfl, p, tdx, _, rfl, Ot.ob, p, t, rfl, htk, wf t (List.mem_of_getElem? ht), fun H4 s4 => hc _ _ s4 ⟨deadM t, by rw [List.getElem?_map, ht]; rfl, rfl⟩⟩
    · intro H1 ys s1 h1 h2 h3
      have e : ys = (ts.map deadM).map V.int := list_ext_int (by rw [h2, hwl, List.length_map]) h3
      rw [e] at h1
      refine ⟨D, ts.map deadM, 0, rfl, rfl, SqL.of h1, fun e0 => ?_, fun m hm hle => ?_⟩
      · have e1 : gdM ts = 0 := by unfold gdM; rw [e0]; rfl
        rw [e1] at q
        exact q H1 s1
      · rw [maxL0_eq hm hle]
        exact q H1 s1
theorem scGs : FnScope ["system", "task"] ["system"] (defScope sGreatestDistance) := ⟨rfl, rfl, rfl, by decide +kernel, rfl, by decide +kernel, by decide +kernel⟩
theorem T_gs (T : Tx K mg ad fd) : Binds K (fd "greatest_distance") ["system"] [] := T.greatestDistance.fn.binds fun _ _ _ _ _ _ us hl => match us, hl with | [_], _ => rfl
theorem ok_gs (T : Tx K mg ad fd) : FnOk P w K mg base CX0 3 (ad "greatest_distance") (fd "greatest_distance") ["system"] (spSy ad gsM) := by
  refine T.greatestDistance.fn.ok scGs (fun vs H Q E h => ?_) (fun cdv A outer s H vs Q E hr h => ?_)
  · obtain ⟨a, ts, tbl, rfl, _⟩ := h
    rfl
  · obtain ⟨a, ts, tbl, rfl, hs, wf, hl, q⟩ := h
    refine ⟨_, pss_one (ps_ret (pe_callBK (cr_maxD rfl) (by rfl) T.b_max boot_max (pa_cons (pe_lc (own := [("task", 1)]) (g := gName 1) (tt := tYes) rfl scGs.nd (pi_tup (pe_fld (pv 0) rfl))
      (blkOk_by (own := [("task", 1)]) (N := ["system", "task"]) (sc := defScope sGreatestDistance) (by decide +kernel)) (fun _ _ _ _ _ => pg_name (i := 1) scGs.nd rfl (Or.inl rfl)) (fun _ _ _ _ _ => pts_nil)
      (fun _ _ _ _ _ => pe_prop (pv 1) T.taskInit.cl T.pDist (ok_ld T) hr (T_ld T) .nil pass0 rfl)) pa_nil) (pk_cons pe_int pk_nil))), ?_⟩
    obtain ⟨dx, ta, tb, tas, O⟩ := id hs
    have hwl : (tas.map V.ref).length = ts.length := by rw [List.length_map, O.len]
    refine ⟨_, rfl, a, _, dx, _, _, rfl, O.ob, T.systemInit.cl, T.nSystem_tasks, rfl, ta, rfl, ⟨_, SqT.of O.to⟩, fun D hD => lc_same (walk_tup (a := ta) (xs := tas.map V.ref)) (fun i v H' => ∃ x, (ts.map ldM)[i]? = some x ∧ v = .int x) (fun _ _ _ _ h _ => h) (by rw [hwl]; omega) hD (fun H' s' => SqT.of (s' _ _ O.to)) ?_ ?_⟩
    · rintro i v H2 H3 acc Kc hi s2 hD2 ⟨rfl, ev⟩ hc
      obtain ⟨p, t, rfl, ht, htk⟩ := (O.same s2).at ev
      obtain ⟨tdx, ka, wa, kas, was, Ot⟩ := id htk
      exact ⟨rfl, _, rfl, p, tdx, _, rfl, Ot.ob, p, t, rfl, htk, wf t (List.mem_of_getElem? ht), fun H4 s4 => hc _ _ s4 ⟨ldM t, by rw [List.getElem?_map, ht]; rfl, rfl⟩⟩
    · intro H1 ys s1 h1 h2 h3
      have e : ys = (ts.map ldM).map V.int := list_ext_int (by rw [h2, hwl, List.length_map]) h3
      rw [e] at h1
      refine ⟨D, ts.map ldM, 0, rfl, rfl, SqL.of h1, fun e0 => ?_, fun m hm hle => ?_⟩
      · have e1 : gsM ts = 0 := by unfold gsM; rw [e0]; rfl
        rw [e1] at q
        exact q H1 s1
      · rw [maxL0_eq hm hle]
        exact q H1 s1
/-! ### row_growth -/
theorem scRg : FnScope ["found", "length", "count", "step", "growth", "below", "upper", "lower", "number", "value"] ["found", "length", "count", "step"] (defScope sRowGrowth) := ⟨rfl, rfl, rfl, by decide +kernel, rfl, by decide +kernel, by decide +kernel⟩
def spRg : Sp := fun vs H Q _ => ∃ (f : Addr) (len cnt step nk : Nat) (ras : List Addr) (rs : List (List Int)), vs = [.ref f, .int (len : Nat), .int (cnt : Nat), .int (step : Nat)] ∧ H f = some (.lst (ras.map V.ref)) ∧ Rows2 H ras rs ∧ (∀ r ∈ rs, r.length = nk) ∧
  len < rs.length ∧ cnt + step ≤ len ∧ cnt ≤ 1000 ∧ ∀ H', Same H H' → Q (.int (rgN rs len step nk cnt)) H'
theorem T_rg (T : Tx K mg ad fd) : KBn K (fd "row_growth") ["found", "length", "count", "step"] 1 ["length", "count", "step"] (fun us ws => us ++ ws) (fun vs zs => vs ++ zs) := kbn_of T.rowGrowth.fn 1 fun _ _ _ _ _ _ us ws h1 h2 => match us, ws, h1, h2 with | [_], [_, _, _], _, _ => rfl
theorem ok_rg (T : Tx K mg ad fd) : FnOk P w K mg base CX0 1 (ad "row_growth") (fd "row_growth") ["found", "length", "count", "step"] spRg := by
  refine T.rowGrowth.fn.ok scRg (fun vs H Q E h => ?_) (fun cdv A outer s H vs Q E hr h => ?_)
  · obtain ⟨f, len, cnt, step, nk, ras, rs, rfl, _⟩ := h
    rfl
  · obtain ⟨f, len, cnt, step, nk, ras, rs, rfl, hf, hrs, hrow, hlen, hcs, hc, q⟩ := h
    refine ⟨_, pss_cons (ps_set (i := 4) scRg.nd rfl (.inl rfl) pe_int)
      (pss_cons (ps_for PassesOwn.never rfl (pi_range1 (by rfl) T.b_range (pa_cons (pv 2) pa_nil)) (pg_name (i := 5) scRg.nd rfl (.inl rfl))
        (pss_cons (ps_set (i := 6) scRg.nd rfl (.inl rfl) (pe_ix ix_list (pv 0) (pe_op op_sub (pv 1) (pv 5)) (fun _ _ => rfl)))
        (pss_cons (ps_set (i := 7) scRg.nd rfl (.inl rfl) (pe_ix ix_list (pv 0) (pe_op op_sub (pe_op op_sub (pv 1) (pv 5)) (pv 3)) (fun _ _ => rfl)))
        (pss_one (ps_for PassesOwn.never rfl (pi_enum (by rfl) T.b_enumerate (pa_cons (pv 6) pa_nil)) (pg_tup rfl (pgs_cons (pg_name (i := 8) scRg.nd rfl (.inl rfl)) (pgs_cons (pg_name (i := 9) scRg.nd rfl (.inl rfl)) pgs_nil)))
          (pss_one (ps_set (i := 4) scRg.nd rfl (.inl rfl) (pe_callB (call_max2 rfl) (by rfl) T.b_max boot_max (pa_cons (pv 4) (pa_cons (pe_op op_sub (pv 9) (pe_ix ix_list (pv 7) (pv 8) (fun _ _ => rfl))) pa_nil)))))))))) (pss_one (ps_ret (pv 4)))), ?_⟩
    refine ⟨_, rfl, _, rfl, by omega, by omega, ?_⟩
    refine for_range (lo := 0) (n := ((cnt : Nat) : Int).toNat) (fun i σ H' => ∃ v5 v6 v7 v8 v9, Same H H' ∧ σ = [some (.ref f), some (.int (len : Nat)), some (.int (cnt : Nat)), some (.int (step : Nat)), some (.int (rgN rs len step nk i)), v5, v6, v7, v8, v9])
      ⟨none, none, none, none, none, Same.refl _, rfl⟩ ?_ ?_
    · rintro i σ H1 hi ⟨v5, v6, v7, v8, v9, s1, rfl⟩
      have hic : i < cnt := by omega
      have hu : len - i < rs.length := by omega
      have hl : len - i - step < rs.length := by omega
      have hrs1 := hrs.same s1
      obtain ⟨pu, hpu, huo⟩ := hrs1.get (List.getElem?_eq_getElem hu)
      obtain ⟨pl, hpl, hlo⟩ := hrs1.get (List.getElem?_eq_getElem hl)
      have eu : rs.getD (len - i) [] = rs[len - i] := by rw [List.getD_eq_getElem?_getD, List.getElem?_eq_getElem hu]; rfl
      have el : rs.getD (len - i - step) [] = rs[len - i - step] := by rw [List.getD_eq_getElem?_getD, List.getElem?_eq_getElem hl]; rfl
      have lu := hrow _ (List.getElem_mem hu)
      have ll := hrow _ (List.getElem_mem hl)
      have hstep : rgN rs len step nk (i + 1) = rgRow rs[len - i] rs[len - i - step] nk (rgN rs len step nk i) := by rw [← eu, ← el]; rfl
      generalize rs[len - i] = up at *
      generalize rs[len - i - step] = lo at *
      refine ⟨_, rfl, _, rfl, _, rfl, _, _, rfl, rfl, _, _, _, _, rfl, rfl, SqL.of (s1 _ _ hf), at_of (j := len - i) (by omega) hpu, ?_⟩
      refine ⟨_, rfl, _, rfl, _, rfl, _, _, rfl, rfl, _, rfl, _, _, rfl, rfl, _, _, _, _, rfl, rfl, SqL.of (s1 _ _ hf), at_of (j := len - i - step) (by omega) hpl, ?_⟩
      refine ⟨_, rfl, pu, _, rfl, SqL.of huo, for_it (walk_enum (a := pu) (xs := up.map V.int)) (fun j σ H' => ∃ v8 v9, Same H1 H' ∧ σ = [some (.ref f), some (.int (len : Nat)), some (.int (cnt : Nat)), some (.int (step : Nat)), some (.int (rgRow up lo j (rgN rs len step nk i))), some (.int (0 + (i : Nat))), some (.ref pu), some (.ref pl), v8, v9])
        ⟨v8, v9, Same.refl _, rfl⟩ (fun j σ H' _ ⟨_, _, s', _⟩ => SqL.of (s' _ _ huo)) ?_ ?_⟩
      · rintro j v σ H2 H3 hj ⟨v8', v9', s2, rfl⟩ ⟨U, y, z, rfl, hU, rfl, ey, ez⟩
        have ez : (up.map V.int)[j]? = some z := ez
        have hju : j < up.length := by rw [List.length_map] at hj; exact hj
        have hjl : j < lo.length := by rw [ll, ← lu]; exact hju
        rw [List.getElem?_map, List.getElem?_eq_getElem hju] at ez
        cases ey
        cases ez
        have s3 : Same H2 (upd H2 U (.tup [.int (j : Nat), .int up[j]])) := Same.up hU
        have e1 : up.getD j 0 = up[j] := by rw [List.getD_eq_getElem?_getD, List.getElem?_eq_getElem hju]; rfl
        have e2 : lo.getD j 0 = lo[j] := by rw [List.getD_eq_getElem?_getD, List.getElem?_eq_getElem hjl]; rfl
        refine ⟨_, _, rfl, SqT.of upd_same, rfl, _, _, rfl, _, _, rfl, rfl, ?_⟩
        refine ⟨_, rfl, _, rfl, _, rfl, _, rfl, _, _, _, .int lo[j], rfl, rfl, SqL.of (s3 _ _ (s2 _ _ hlo)), atI_nat (by rw [List.getElem?_map, List.getElem?_eq_getElem hjl]; rfl), _, _, rfl, rfl, _, _, rfl, ?_⟩
        refine ⟨some (.int (j : Nat)), some (.int up[j]), s2.trans s3, ?_⟩
        show _ = [_, _, _, _, some (V.int (mx (rgRow up lo j (rgN rs len step nk i)) (up.getD j 0 - lo.getD j 0))), _, _, _, _, _]
        rw [e1, e2]
        rfl
      · rintro σ H2 ⟨v8', v9', s2, rfl⟩
        rw [List.length_map, lu]
        exact ⟨_, _, _, _, _, s1.trans s2, by rw [hstep]⟩
    · rintro σ H1 ⟨v5, v6, v7, v8, v9, s1, rfl⟩
      exact ⟨_, rfl, q H1 s1⟩
end
end Nl
set_option maxHeartbeats 4000000
namespace Nl
open PySem PySem.Spec PyProof.Rows L2
/-- the rows of all tasks -/
def Rows3 (H : Hp) (f : Addr) (ts : List Tk) (n : Nat) : Prop := ∃ as : List Addr, H f = some (.lst (as.map V.ref)) ∧ as.length = ts.length ∧ ∀ (i : Nat) (t : Tk), ts[i]? = some t → ∃ p ras, as[i]? = some p ∧ H p = some (.lst (ras.map V.ref)) ∧ Rows2 H ras (rowsN t n)
theorem Rows3.same {H H' : Hp} {f : Addr} {ts : List Tk} {n : Nat} (h : Rows3 H f ts n) (s : Same H H') : Rows3 H' f ts n := by
  obtain ⟨as, h1, h2, h3⟩ := h
  refine ⟨as, s _ _ h1, h2, fun i t e => ?_⟩
  obtain ⟨p, ras, e1, e2, e3⟩ := h3 i t e
  exact ⟨p, ras, e1, s _ _ e2, e3.same s⟩
theorem cr_eq0 {ts : List Tk} {tbl : List Int} {step hor : Nat} (h : step < 1 ∨ step % tbl.length ≠ 0) : crM ts tbl step hor = false := if_pos h
theorem cr_eq1 {ts : List Tk} {tbl : List Int} {step hor : Nat} (h : ¬ (step < 1 ∨ step % tbl.length ≠ 0)) (h2 : (hor : Int) < gdM ts + gsM ts + tbl.length + step) : crM ts tbl step hor = false := by
  unfold crM
  rw [if_neg h, if_pos h2]
theorem cr_eq2 {ts : List Tk} {tbl : List Int} {step hor : Nat} (h : ¬ (step < 1 ∨ step % tbl.length ≠ 0)) (h2 : ¬ (hor : Int) < gdM ts + gsM ts + tbl.length + step) : crM ts tbl step hor = decide (grM ts hor tbl.length (gsM ts).toNat step ≤ tbl.sum * ((step / tbl.length : Nat) : Int)) := by
  unfold crM
  rw [if_neg h, if_neg h2]
section
variable {P : Program} {w : World} {K : PySem.W.Frag} {mg : Str → Option Value} {base : Heap} {ad : Str → Addr} {fd : Str → FuncData}
/-! ### come_round -/
theorem scCo : FnScope ["system", "found", "step", "horizon", "period", "count", "growth", "task_rows"] ["system", "found", "step", "horizon"] (defScope sComeRound) := ⟨rfl, rfl, rfl, by decide +kernel, rfl, by decide +kernel, by decide +kernel⟩
def spCo (ad : Str → Addr) : Sp := fun vs H Q _ => ∃ (a f : Addr) (ts : List Tk) (tbl : List Int) (step hor : Nat), vs = [.ref a, .ref f, .int (step : Nat), .int (hor : Nat)] ∧ SyAt ad H a ts tbl ∧ (∀ t ∈ ts, WfT t) ∧ ts.length ≤ 100 ∧ WfB tbl ∧ hor ≤ 1000 ∧
  Rows3 H f ts (hor + 1) ∧ ∀ H', Same H H' → Q (.bl (crM ts tbl step hor)) H'
theorem T_co (T : Tx K mg ad fd) : KBn K (fd "come_round") ["system", "found", "step", "horizon"] 2 ["step", "horizon"] (fun us ws => us ++ ws) (fun vs zs => vs ++ zs) := kbn_of T.comeRound.fn 2 fun _ _ _ _ _ _ us ws h1 h2 => match us, ws, h1, h2 with | [_, _], [_, _], _, _ => rfl
theorem ok_co (T : Tx K mg ad fd) : FnOk P w K mg base CX0 4 (ad "come_round") (fd "come_round") ["system", "found", "step", "horizon"] (spCo ad) := by
  refine T.comeRound.fn.ok scCo (fun vs H Q E h => ?_) (fun cdv A outer s H vs Q E hr h => ?_)
  · obtain ⟨a, f, ts, tbl, step, hor, rfl, _⟩ := h
    rfl
  · obtain ⟨a, f, ts, tbl, step, hor, rfl, hs, wf, hl, wb, hh, hf, q⟩ := h
    refine ⟨_, pss_cons (ps_set (i := 4) scCo.nd rfl (.inl rfl) (pe_callB call_len_seq (by rfl) T.b_len PySem.boot_len (pa_cons (pe_fld (pv 0) rfl) pa_nil)))
      (pss_cons (ps_set (i := 5) scCo.nd rfl (.inl rfl) (pe_call (ok_gs T) hr (by rfl) T.greatestDistance.gl T.greatestDistance.fn.kp (T_gs T) .nil pass0 (pa_cons (pv 0) pa_nil)))
      (pss_cons (ps_if (pw_or (pt_cmpR op_lt (pv 2) pe_int (nomark _)) (pw_or1 (pt_cmpR op_ne (pe_op op_mod (pv 2) (pv 4)) pe_int (nomark _)))).pt (pss_one (ps_ret pe_bl)) pss_nil)
      (pss_cons (ps_if (pt_cmpR op_gt (pe_op op_add (pe_op op_add (pe_op op_add (pe_call (ok_gd T) hr (by rfl) T.greatestDeadline.gl T.greatestDeadline.fn.kp (T_gd T) .nil pass0 (pa_cons (pv 0) pa_nil)) (pv 5)) (pv 4)) (pv 2)) (pv 3) (nomark _)) (pss_one (ps_ret pe_bl)) pss_nil)
      (pss_cons (ps_set (i := 6) scCo.nd rfl (.inl rfl) pe_int)
      (pss_cons (ps_for PassesOwn.never rfl (pi_list (pv 1)) (pg_name (i := 7) scCo.nd rfl (.inl rfl))
        (pss_one (ps_aug (i := 6) scCo.nd rfl (.inl rfl) (pe_callN (ok_rg T) (hr.mono (by decide)) (by rfl) T.rowGrowth.gl T.rowGrowth.fn.kp (T_rg T) pass0 (pa_cons (pv 7) pa_nil) (pk_cons (pe_op op_sub (pv 3) (pv 4)) (pk_cons (pv 5) (pk_cons (pv 2) pk_nil)))) ip_add)))
      (pss_one (ps_ret (pe_cmpR op_le (pv 6) (pe_op op_mul (pe_callB (cr_sumT rfl) (by rfl) T.b_sum boot_sum (pa_cons (pe_fld (pv 0) rfl) pa_nil)) (pe_op op_fdiv (pv 2) (pv 4))) (nomark _))))))))), ?_⟩
    obtain ⟨dx, ta, tb, tas, O⟩ := id hs
    have hw := wb.sum
    have hlen := wb.len
    have hne := wb.ne
    have gs := gsM_bounds wf
    have gd := gdM_bounds wf
    refine ⟨_, rfl, a, _, dx, _, _, rfl, O.ob, T.systemInit.cl, T.nSystem_table, rfl, tb, _, rfl, .inr (SqT.of O.bo), ?_⟩
    rw [List.length_map]
    refine ⟨_, rfl, a, ts, tbl, rfl, hs, wf, hl, fun H1 s1 => ?_⟩
    have emod : ((step : Nat) : Int) % ((tbl.length : Nat) : Int) = ((step % tbl.length : Nat) : Int) := rfl
    refine ⟨_, rfl, _, _, rfl, rfl, _, rfl, ite2 (fun c => ?_) (fun c => ?_)⟩
    · have c1 : ((step : Nat) : Int) < 1 := of_decide_eq_true c
      rw [cr_eq0 (.inl (by omega))] at q
      exact q H1 s1
    · have c1 : ¬ ((step : Nat) : Int) < 1 := fun z => c (decide_eq_true z)
      refine ⟨_, rfl, _, rfl, _, _, rfl, rfl, by omega, rfl, _, rfl, ite2 (fun c2 => ?_) (fun c2 => ?_)⟩
      · have c3 : step % tbl.length ≠ 0 := fun z => by
          have c2 : (!decide (V.int ((step % tbl.length : Nat) : Int) = V.int 0)) = true := c2
          rw [z] at c2
          exact absurd c2 (by decide)
        rw [cr_eq0 (.inr c3)] at q
        exact q H1 s1
      · have c3 : step % tbl.length = 0 := by
          by_cases z : step % tbl.length = 0
          · exact z
          · refine absurd ?_ c2
            show (!decide (V.int ((step % tbl.length : Nat) : Int) = V.int 0)) = true
            have ne : ¬ V.int ((step % tbl.length : Nat) : Int) = V.int 0 := fun h => z (by injection h with h; omega)
            rw [decide_eq_false ne]; rfl
        have hno : ¬ (step < 1 ∨ step % tbl.length ≠ 0) := fun h => by
          rcases h with h | h
          · omega
          · exact h c3
        refine ⟨_, rfl, a, ts, tbl, rfl, hs.same s1, wf, hl, fun H2 s2 => ?_⟩
        have s02 := s1.trans s2
        refine ⟨_, rfl, _, _, rfl, rfl, _, rfl, _, _, rfl, rfl, _, rfl, _, _, rfl, rfl, _, rfl, _, _, rfl, rfl, _, rfl, ite2 (fun c4 => ?_) (fun c4 => ?_)⟩
        · have c5 : ((hor : Nat) : Int) < gdM ts + gsM ts + tbl.length + step := of_decide_eq_true c4
          rw [cr_eq1 hno c5] at q
          exact q H2 s02
        · have c5 : ¬ ((hor : Nat) : Int) < gdM ts + gsM ts + tbl.length + step := fun z => c4 (decide_eq_true z)
          rw [cr_eq2 hno c5] at q
          obtain ⟨as, f1, f2, f3⟩ := hf.same s02
          have hasl : (as.map V.ref).length = ts.length := by rw [List.length_map, f2]
          refine ⟨_, rfl, f, rfl, ⟨_, SqL.of f1⟩, for_it (walk_list (a := f) (xs := as.map V.ref)) (fun i σ H' => ∃ v7, Same H2 H' ∧ σ = [some (.ref a), some (.ref f), some (.int (step : Nat)), some (.int (hor : Nat)), some (.int (tbl.length : Nat)), some (.int (gsM ts)), some (.int (grM (ts.take i) hor tbl.length (gsM ts).toNat step)), v7])
            ⟨none, Same.refl _, rfl⟩ (fun i σ H' _ ⟨_, s', _⟩ => SqL.of (s' _ _ f1)) ?_ ?_⟩
          · rintro i v σ H3 H4 hi ⟨v7, s3, rfl⟩ ⟨rfl, ev⟩
            have hit : i < ts.length := by rw [hasl] at hi; exact hi
            have et := List.getElem?_eq_getElem hit
            generalize ts[i] = t at et
            obtain ⟨p, ras, e1, e2, e3⟩ := f3 i t et
            rw [List.getElem?_map, e1] at ev
            cases ev
            have hstep : grM (ts.take (i + 1)) hor tbl.length (gsM ts).toNat step = grM (ts.take i) hor tbl.length (gsM ts).toNat step + rgN (rowsN t (hor + 1)) (hor - tbl.length) step t.kinds.length (gsM ts).toNat := foldl_take (f := fun g t => g + rgN (rowsN t (hor + 1)) (hor - tbl.length) step t.kinds.length (gsM ts).toNat) et
            have ev1 : ((hor : Nat) : Int) - ((tbl.length : Nat) : Int) = ((hor - tbl.length : Nat) : Int) := by omega
            have ev2 : gsM ts = (((gsM ts).toNat : Nat) : Int) := by omega
            refine ⟨_, rfl, _, rfl, _, rfl, _, rfl, _, _, rfl, rfl, _, rfl, _, rfl, rfl, rfl, p, hor - tbl.length, (gsM ts).toNat, step, t.kinds.length, ras, rowsN t (hor + 1), ?_, s3 _ _ e2, e3.same s3, rowsN_row t _, by rw [rowsN_len]; omega, by omega, by omega, fun H5 s5 => ?_⟩
            · show [V.ref p, V.int (((hor : Nat) : Int) - ((tbl.length : Nat) : Int)), V.int (gsM ts), V.int ((step : Nat) : Int)] = _
              rw [ev1, ← ev2]
            · refine ⟨_, _, rfl, rfl, ?_⟩
              refine ⟨some (.ref p), s3.trans s5, ?_⟩
              rw [hstep]
              rfl
          · rintro σ H3 ⟨v7, s3, rfl⟩
            rw [hasl, List.take_length]
            have O3 := O.same (s02.trans s3)
            have d1 : ((step : Nat) : Int) / ((tbl.length : Nat) : Int) = ((step / tbl.length : Nat) : Int) := rfl
            refine ⟨_, rfl, _, rfl, a, _, dx, _, _, rfl, O3.ob, T.systemInit.cl, T.nSystem_table, rfl, tb, tbl, rfl, SqT.of O3.bo, _, rfl, _, rfl, _, _, rfl, rfl, ⟨by omega, by omega⟩, _, _, rfl, rfl, .inl ⟨by omega, by omega⟩, _, _, rfl, rfl, ?_⟩
            rw [d1]
            exact q H3 (s02.trans s3)
/-! ### rounds -/
theorem scRo : FnScope ["system", "horizon", "found", "period", "step", "task"] ["system", "horizon"] (defScope sRounds) := ⟨rfl, rfl, rfl, by decide +kernel, rfl, by decide +kernel, by decide +kernel⟩
def spRo (ad : Str → Addr) : Sp := fun vs H Q _ => ∃ (a : Addr) (ts : List Tk) (tbl : List Int) (hor : Nat), vs = [.ref a, .int (hor : Nat)] ∧ SyAt ad H a ts tbl ∧ (∀ t ∈ ts, WfT t) ∧ ts.length ≤ 100 ∧ WfB tbl ∧ hor ≤ 1000 ∧
  (∀ H', Same H H' → (roM ts tbl hor = false → Q .non H') ∧ (roM ts tbl hor = true → ∀ i, Q (.int i) H'))
theorem T_ro (T : Tx K mg ad fd) : KBn K (fd "rounds") ["system", "horizon"] 1 ["horizon"] (fun us ws => us ++ ws) (fun vs zs => vs ++ zs) := kbn_of T.rounds.fn 1 fun _ _ _ _ _ _ us ws h1 h2 => match us, ws, h1, h2 with | [_], [_], _, _ => rfl
theorem any_false_range {f : Nat → Bool} {n : Nat} (h : ∀ k, k < n → f k = false) : (List.range n).any f = false := by
  rw [List.any_eq_false]
  intro k hk
  rw [h k (List.mem_range.mp hk)]
  decide
theorem any_true_range {f : Nat → Bool} {n k : Nat} (h : k < n) (e : f k = true) : (List.range n).any f = true := List.any_eq_true.mpr ⟨k, List.mem_range.mpr h, e⟩
theorem ok_ro (T : Tx K mg ad fd) : FnOk P w K mg base CX0 5 (ad "rounds") (fd "rounds") ["system", "horizon"] (spRo ad) := by
  refine T.rounds.fn.ok scRo (fun vs H Q E h => ?_) (fun cdv A outer s H vs Q E hr h => ?_)
  · obtain ⟨a, ts, tbl, hor, rfl, _⟩ := h
    rfl
  · obtain ⟨a, ts, tbl, hor, rfl, hs, wf, hl, wb, hh, q⟩ := h
    refine ⟨_, pss_cons (ps_setLc (i := 2) (own := [("task", 5)]) (g := gName 5) (tt := tYes) rfl scRo.nd rfl rfl (sw_true rfl rfl rfl (by decide +kernel)) (pi_tup (pe_fld (pv 0) rfl))
        (blkOk_by (own := [("task", 5)]) (N := ["system", "horizon", "found", "period", "step", "task"]) (sc := defScope sRounds) (by decide +kernel)) (fun _ _ _ _ _ => pg_name (i := 5) scRo.nd rfl (Or.inl rfl)) (fun _ _ _ _ _ => pts_nil)
        (fun _ _ _ _ _ => pe_call (ok_rows T) hr (by rfl) T.rows.gl T.rows.fn.kp (T_rows T) .nil pass0 (pa_cons (pv 5) (pa_cons (pv 1) pa_nil))))
      (pss_cons (ps_set (i := 3) scRo.nd rfl (.inl rfl) (pe_callB call_len_seq (by rfl) T.b_len PySem.boot_len (pa_cons (pe_fld (pv 0) rfl) pa_nil)))
      (pss_cons (ps_for PassesOwn.never rfl (pi_range3 (by rfl) T.b_range (pa_cons (pv 3) (pa_cons (pe_op op_add (pv 1) pe_int) (pa_cons (pv 3) pa_nil)))) (pg_name (i := 4) scRo.nd rfl (.inl rfl))
        (pss_one (ps_if (pt_val (pe_callN (ok_co T) hr (by rfl) T.comeRound.gl T.comeRound.fn.kp (T_co T) pass0 (pa_cons (pv 0) (pa_cons (pv 2) pa_nil)) (pk_cons (pv 4) (pk_cons (pv 1) pk_nil)))) (pss_one (ps_ret (pv 4))) pss_nil)))
      (pss_one (ps_ret pe_non)))), ?_⟩
    obtain ⟨dx, ta, tb, tas, O⟩ := id hs
    have hlen := wb.len
    have hne := wb.ne
    have hta : (tas.map V.ref).length = ts.length := by rw [List.length_map, O.len]
    refine ⟨_, rfl, a, _, dx, _, _, rfl, O.ob, T.systemInit.cl, T.nSystem_tasks, rfl, ta, rfl, ⟨_, SqT.of O.to⟩, fun D hD => lc_same (walk_tup (a := ta) (xs := tas.map V.ref)) (fun i v H' => ∃ t p ras, ts[i]? = some t ∧ v = .ref p ∧ H' p = some (.lst (ras.map V.ref)) ∧ Rows2 H' ras (rowsN t (hor + 1)) ∧ p ≠ D ∧ ∀ b ∈ ras, b ≠ D)
      (fun i v H H' ⟨t, p, ras, h1, h2, h3, h4, h5, h6⟩ k => ⟨t, p, ras, h1, h2, k _ _ h5 h3, h4.keep h6 k, h5, h6⟩) (by rw [hta]; omega) hD (fun H' s' => SqT.of (s' _ _ O.to)) ?_ ?_⟩
    · rintro i v H2 H3 acc Kc hi s2 hD2 ⟨rfl, ev⟩ hc
      obtain ⟨p, t, rfl, ht, htk⟩ := (O.same s2).at ev
      refine ⟨rfl, _, rfl, _, rfl, p, t, hor, rfl, htk, wf t (List.mem_of_getElem? ht), hh, fun H4 pb ras s4 hpb hpo hrs hfr => ?_⟩
      exact hc _ _ s4 ⟨t, pb, ras, ht, rfl, hpo, hrs, (ne_of_none hD2 hpb).symm, fun b hb => (ne_of_none hD2 (hfr b hb)).symm⟩
    · intro H1 ys s1 h1 h2 h3
      rw [hta] at h2
      obtain ⟨as, rfl, hal, ha⟩ := refs_of h2 (fun i p => ∃ t ras, ts[i]? = some t ∧ H1 p = some (.lst (ras.map V.ref)) ∧ Rows2 H1 ras (rowsN t (hor + 1))) fun i y hy => by
        obtain ⟨t, p, ras, e1, e2, e3, e4, _⟩ := h3 i y hy
        exact ⟨p, e2, t, ras, e1, e3, e4⟩
      have R3 : Rows3 H1 D ts (hor + 1) := ⟨as, h1, hal, fun i t e => by
        have hi : i < as.length := by rw [hal]; exact (List.getElem?_eq_some_iff.mp e).1
        obtain ⟨t', ras, e1, e2, e3⟩ := ha i _ (List.getElem?_eq_getElem hi)
        rw [e] at e1
        cases e1
        exact ⟨_, ras, List.getElem?_eq_getElem hi, e2, e3⟩⟩
      have O1 := O.same s1
      refine ⟨_, rfl, a, _, dx, _, _, rfl, O1.ob, T.systemInit.cl, T.nSystem_table, rfl, tb, _, rfl, .inr (SqT.of O1.bo), ?_⟩
      rw [List.length_map]
      refine ⟨_, rfl, _, rfl, _, _, rfl, rfl, _, rfl, _, _, _, _, rfl, rgc_step hne hlen hh, for_it (walk_rangeC (lo := ((tbl.length : Nat) : Int)) (c := ((tbl.length : Nat) : Int)) (n := rosize tbl.length hor)) (fun k σ H' => ∃ v4, Same H1 H' ∧ (∀ j, j < k → crM ts tbl (tbl.length + j * tbl.length) hor = false) ∧ σ = [some (.ref a), some (.int (hor : Nat)), some (.ref D), some (.int (tbl.length : Nat)), v4, none])
        ⟨none, Same.refl _, fun j hj => absurd hj (Nat.not_lt_zero _), rfl⟩ (fun _ _ _ _ _ => trivial) ?_ ?_⟩
      · rintro k v σ H2 H3 hk ⟨v4, s2, hno, rfl⟩ ⟨rfl, rfl⟩
        have es : ((tbl.length : Nat) : Int) + ((k : Nat) : Int) * ((tbl.length : Nat) : Int) = ((tbl.length + k * tbl.length : Nat) : Int) := by rw [Int.natCast_add, Int.natCast_mul]
        dsimp only
        rw [es]
        generalize hst : tbl.length + k * tbl.length = step at es
        refine ⟨_, rfl, _, rfl, _, rfl, _, rfl, rfl, rfl, a, D, ts, tbl, step, hor, rfl, (hs.same s1).same s2, wf, hl, wb, hh, R3.same s2, fun H4 s4 => ⟨_, rfl, ite2 (fun c => ?_) (fun c => ?_)⟩⟩
        · have e : roM ts tbl hor = true := any_true_range (k := k) hk (by rw [hst]; exact c)
          exact ⟨_, rfl, (q H4 ((s1.trans s2).trans s4)).2 e _⟩
        · refine ⟨_, s2.trans s4, fun j hj => ?_, rfl⟩
          by_cases ej : j = k
          · subst ej
            rw [hst]
            cases hcr : crM ts tbl step hor with
            | true => exact absurd hcr c
            | false => rfl
          · exact hno j (by omega)
      · rintro σ H2 ⟨v4, s2, hno, rfl⟩
        exact (q H2 (s1.trans s2)).1 (any_false_range hno)
/-! ### is_decided -/
theorem scId : FnScope ["system", "horizon", "decisive"] ["system", "horizon"] (defScope sIsDecided) := ⟨rfl, rfl, rfl, by decide +kernel, rfl, by decide +kernel, by decide +kernel⟩
def spId (ad : Str → Addr) : Sp := fun vs H Q _ => ∃ (a : Addr) (ts : List Tk) (tbl : List Int) (hor : Nat), vs = [.ref a, .int (hor : Nat)] ∧ SyAt ad H a ts tbl ∧ (∀ t ∈ ts, WfT t) ∧ ts.length ≤ 4 ∧ WfB tbl ∧ hor ≤ 1000 ∧
  ∀ H', Same H H' → Q (.bl (dcM ts tbl hor)) H'
theorem T_id (T : Tx K mg ad fd) : KBn K (fd "is_decided") ["system", "horizon"] 1 ["horizon"] (fun us ws => us ++ ws) (fun vs zs => vs ++ zs) := kbn_of T.isDecided.fn 1 fun _ _ _ _ _ _ us ws h1 h2 => match us, ws, h1, h2 with | [_], [_], _, _ => rfl
theorem ok_id (T : Tx K mg ad fd) : FnOk P w K mg base CX0 12 (ad "is_decided") (fd "is_decided") ["system", "horizon"] (spId ad) := by
  refine T.isDecided.fn.ok scId (fun vs H Q E h => ?_) (fun cdv A outer s H vs Q E hr h => ?_)
  · obtain ⟨a, ts, tbl, hor, rfl, _⟩ := h
    rfl
  · obtain ⟨a, ts, tbl, hor, rfl, hs, wf, hl, wb, hh, q⟩ := h
    refine ⟨_, pss_cons (ps_if (pt_cmpR op_eq (pe_callB call_len_seq (by rfl) T.b_len PySem.boot_len (pa_cons (pe_fld (pv 0) rfl) pa_nil)) pe_int (nomark _)) (pss_one (ps_ret pe_bl)) pss_nil)
      (pss_cons (ps_set (i := 2) scId.nd rfl (.inl rfl) (pe_call (ok_dh T) hr (by rfl) T.decisiveHorizon.gl T.decisiveHorizon.fn.kp (T_dh T) .nil pass0 (pa_cons (pv 0) pa_nil)))
      (pss_cons (ps_if (pw_and (pt_cmpR op_notN (pv 2) pe_non (nomark _)) (pw_and1 (pt_cmpR op_le (pv 2) (pv 1) (nomark _)))).pt (pss_one (ps_ret pe_bl)) pss_nil)
      (pss_one (ps_ret (pe_cmpR op_notN (pe_callN (ok_ro T) (hr.mono (by decide)) (by rfl) T.rounds.gl T.rounds.fn.kp (T_ro T) pass0 (pa_cons (pv 0) pa_nil) (pk_cons (pv 1) pk_nil)) pe_non (nomark _)))))), ?_⟩
    obtain ⟨dx, ta, tb, tas, O⟩ := id hs
    have hta : (tas.map V.ref).length = ts.length := by rw [List.length_map, O.len]
    refine ⟨_, rfl, a, _, dx, _, _, rfl, O.ob, T.systemInit.cl, T.nSystem_tasks, rfl, ta, _, rfl, .inr (SqT.of O.to), rfl, _, rfl, ite2 (fun c => ?_) (fun c => ?_)⟩
    · have c1 : V.int (((tas.map V.ref).length : Nat) : Int) = V.int 0 := of_decide_eq_true c
      injection c1 with c1
      rw [hta] at c1
      have e : dcM ts tbl hor = true := if_pos (by omega)
      rw [e] at q
      exact q H (Same.refl _)
    · have c1 : ¬ ts.length = 0 := fun z => c (decide_eq_true (by rw [hta, z]; rfl))
      have e0 : dcM ts tbl hor = (match dhM ts tbl with | some d => if d ≤ (hor : Int) then true else roM ts tbl hor | none => roM ts tbl hor) := if_neg c1
      refine ⟨_, rfl, a, ts, tbl, rfl, hs, wf, hl, wb, fun H1 s1 => ?_⟩
      have fin : dcM ts tbl hor = roM ts tbl hor → ∀ H2, Same H H2 → (roM ts tbl hor = false → Q (.bl (!decide (V.non = V.non))) H2) ∧ (roM ts tbl hor = true → ∀ i, Q (.bl (!decide (V.int i = V.non))) H2) := fun e H2 s2 => by
        rw [e] at q
        refine ⟨fun z => ?_, fun z i => ?_⟩
        · rw [z] at q; exact q H2 s2
        · rw [z] at q
          exact q H2 s2
      cases hd : dhM ts tbl with
      | none =>
        rw [hd] at e0
        refine ⟨_, rfl, rfl, _, rfl, ite2 (fun c2 => absurd c2 (by decide)) (fun _ => ?_)⟩
        refine ⟨_, rfl, _, rfl, rfl, rfl, a, ts, tbl, hor, rfl, hs.same s1, wf, by omega, wb, hh, fun H2 s2 => ?_⟩
        obtain ⟨f1, f2⟩ := fin e0 H2 (s1.trans s2)
        exact ⟨fun z => ⟨rfl, f1 z⟩, fun z i => ⟨rfl, f2 z i⟩⟩
      | some d =>
        rw [hd] at e0
        refine ⟨_, rfl, rfl, _, rfl, ite2 (fun _ => ?_) (fun c2 => absurd rfl c2)⟩
        refine ⟨_, rfl, _, rfl, _, _, rfl, rfl, _, rfl, ite2 (fun c2 => ?_) (fun c2 => ?_)⟩
        · have c3 : d ≤ (hor : Int) := of_decide_eq_true c2
          have e : dcM ts tbl hor = true := by rw [e0]; exact if_pos c3
          rw [e] at q
          exact q H1 s1
        · have c3 : ¬ d ≤ (hor : Int) := fun z => c2 (decide_eq_true z)
          have e : dcM ts tbl hor = roM ts tbl hor := by rw [e0]; exact if_neg c3
          refine ⟨_, rfl, _, rfl, rfl, rfl, a, ts, tbl, hor, rfl, hs.same s1, wf, by omega, wb, hh, fun H2 s2 => ?_⟩
          obtain ⟨f1, f2⟩ := fin e H2 (s1.trans s2)
          exact ⟨fun z => ⟨rfl, f1 z⟩, fun z i => ⟨rfl, f2 z i⟩⟩
end
end Nl
set_option maxHeartbeats 4000000
namespace L2
open PySem PySem.Spec PyProof.Rows
theorem pg_tupK (K : PySem.W.Frag) {X : Cx} {es : List Expr} {k : Nat} {pos : Pos} {t : TGs} {n : Nat} (hc : X.calm = true) (h : PGs X es t) (hn : (assignEach es X.env).length = n := by rfl) (hst : (assignEach es X.env).findIdx? (·.1) = none := by rfl) (hK : X.K = K := by rfl) : PG X (.Tuple es k pos) (gTup K n t) := hK ▸ pg_tup hc h hn hst
end L2
namespace Nl
open PySem PySem.Spec PyProof.Rows L2
def hvV (x : Int × Str) : List V := [.int x.1, .str x.2]
section
variable {P : Program} {w : World} {K : PySem.W.Frag} {mg : Str → Option Value} {base : Heap} {ad : Str → Addr} {fd : Str → FuncData}
/-! ### best_step -/
theorem scBt : FnScope ["task", "name", "rest", "found", "best", "step", "target", "distance", "number", "work"] ["task", "name", "rest", "found"] (defScope sBestStep) := ⟨rfl, rfl, rfl, by decide +kernel, rfl, by decide +kernel, by decide +kernel⟩
def StepV (H : Hp) (t : Tk) (rest : Nat) (v : V) : Prop := v = .non ∨ ∃ p k d : Nat, v = .ref p ∧ k < t.kinds.length ∧ 1 ≤ d ∧ d ≤ rest ∧ H p = some (.tup [.int (k : Nat), .int (d : Nat)])
theorem StepV.same {H H' : Hp} {t : Tk} {rest : Nat} {v : V} (h : StepV H t rest v) (s : Same H H') : StepV H' t rest v := by
  rcases h with h | ⟨p, k, d, h1, h2, h3, h4, h5⟩
  · exact .inl h
  · exact .inr ⟨p, k, d, h1, h2, h3, h4, s _ _ h5⟩
def spBt (ad : Str → Addr) : Sp := fun vs H Q _ => ∃ (a f : Addr) (t : Tk) (x : Str) (rest : Nat) (ras : List Addr) (rs : List (List Int)), vs = [.ref a, .str x, .int (rest : Nat), .ref f] ∧ TkAt ad H a t ∧ WfT t ∧ hasK t x ∧
  H f = some (.lst (ras.map V.ref)) ∧ Rows2 H ras rs ∧ rest < rs.length ∧ (∀ r ∈ rs, r.length = t.kinds.length) ∧ ∀ H' v, Same H H' → StepV H' t rest v → Q v H'
theorem T_bt (T : Tx K mg ad fd) : Binds K (fd "best_step") ["task", "name", "rest", "found"] [] := T.bestStep.fn.binds fun _ _ _ _ _ _ us hl => match us, hl with | [_, _, _, _], _ => rfl
theorem ok_bt (T : Tx K mg ad fd) : FnOk P w K mg base CX0 3 (ad "best_step") (fd "best_step") ["task", "name", "rest", "found"] (spBt ad) := by
  refine T.bestStep.fn.ok scBt (fun vs H Q E h => ?_) (fun cdv A outer s H vs Q E hr h => ?_)
  · obtain ⟨a, f, t, x, n, ras, rs, rfl, _⟩ := h
    rfl
  · obtain ⟨a, f, t, x, n, ras, rs, rfl, ht, wf, hx, hf, hrs, hlen, hrow, q⟩ := h
    refine ⟨_, pss_cons (ps_set (i := 4) scBt.nd rfl (.inl rfl) pe_int)
      (pss_cons (ps_set (i := 5) scBt.nd rfl (.inl rfl) pe_non)
      (pss_cons (ps_for PassesOwn.never rfl (pi_list (pe_meth (pv 0) T.taskInit.cl T.taskWaysFrom.me (ok_wf T) hr (T_wf T) .nil pass0 (pa_cons (pv 1) pa_nil))) (pg_tup rfl (pgs_cons (pg_name (i := 6) scBt.nd rfl (.inl rfl)) (pgs_cons (pg_name (i := 7) scBt.nd rfl (.inl rfl)) pgs_nil)))
        (pss_one (ps_if (pt_cmpR op_le (pv 7) (pv 2) (nomark _))
          (pss_cons (ps_set (i := 8) scBt.nd rfl (.inl rfl) (pe_meth (pv 0) T.taskInit.cl T.taskKindNumber.me (ok_kno T) (hr.mono (by decide)) (T_kno T) .nil pass0 (pa_cons (pv 6) pa_nil)))
          (pss_cons (ps_set (i := 9) scBt.nd rfl (.inl rfl) (pe_ix ix_list (pe_ix ix_list (pv 3) (pe_op op_sub (pv 2) (pv 7)) (fun _ _ => rfl)) (pv 8) (fun _ _ => rfl)))
          (pss_one (ps_if (pt_cmpR op_gt (pv 9) (pv 4) (nomark _)) (pss_cons (ps_set (i := 4) scBt.nd rfl (.inl rfl) (pv 9)) (pss_one (ps_set (i := 5) scBt.nd rfl (.inl rfl) (pe_tup (pa_cons (pv 8) (pa_cons (pv 7) pa_nil)))))) pss_nil)))) pss_nil)))
      (pss_one (ps_ret (pv 5))))), ?_⟩
    obtain ⟨dx, ka, wa, kas, was, O⟩ := id ht
    refine ⟨_, rfl, a, dx, _, rfl, O.ob, rfl, _, rfl, a, t, x, rfl, ht, hx, Nat.le_trans wf.wlen (by decide), fun H1 p s1 hp ⟨as, hpl, hts⟩ => ?_⟩
    refine ⟨p, rfl, ⟨_, SqL.of hpl⟩, for_it (walk_list (a := p) (xs := as.map V.ref)) (fun i σ H' => ∃ (b : Int) (v5 : V) (v6 v7 v8 v9 : Option V), Same H1 H' ∧ StepV H' t n v5 ∧ σ = [some (.ref a), some (.str x), some (.int (n : Nat)), some (.ref f), some (.int b), some v5, v6, v7, v8, v9])
      ⟨0, .non, none, none, none, none, Same.refl _, .inl rfl, rfl⟩ (fun i σ H' _ ⟨_, _, _, _, _, _, s2, _⟩ => SqL.of (s2 _ _ hpl)) ?_ ?_⟩
    · rintro i v σ H2 H3 hi ⟨b, v5, v6, v7, v8, v9, s2, hst, rfl⟩ ⟨rfl, ev⟩
      obtain ⟨u, y, rfl, hu, hy, hut⟩ := (hts.same s2).get ev
      obtain ⟨src, hmem⟩ := waysFrom_mem (List.mem_of_getElem? hy)
      have hd := wf.dist _ hmem
      have hk := wf.tgt _ hmem
      simp only at hd hk
      have kl := kno_lt hk
      refine ⟨_, _, rfl, SqT.of hut, rfl, _, _, rfl, _, _, rfl, rfl, ?_⟩
      refine ⟨_, rfl, _, rfl, _, _, rfl, rfl, _, rfl, ite2 (fun c => ?_) (fun c => ?_)⟩
      · have c' : y.2 ≤ ((n : Nat) : Int) := of_decide_eq_true c
        have hlt : (((n : Nat) : Int) - y.2).toNat < rs.length := by omega
        obtain ⟨pr, hpr, hpo⟩ := (hrs.same (s1.trans s2)).get (List.getElem?_eq_getElem hlt)
        have hrl := hrow _ (List.getElem_mem hlt)
        generalize rs[(((n : Nat) : Int) - y.2).toNat] = row at hpr hpo hrl
        have hkl : kno t y.1 < row.length := by rw [hrl]; exact kl
        refine ⟨_, rfl, a, dx, _, rfl, s2 _ _ (s1 _ _ O.ob), rfl, _, rfl, a, t, y.1, rfl, ht.same (s1.trans s2), hk, fun H4 s4 => ?_⟩
        have s24 := s2.trans s4
        refine ⟨_, rfl, _, rfl, _, rfl, _, _, rfl, rfl, _, _, _, _, rfl, rfl, SqL.of (s24 _ _ (s1 _ _ hf)), at_of (j := (((n : Nat) : Int) - y.2).toNat) (by omega) hpr, _, rfl, _, _, _, .int row[kno t y.1], rfl, rfl, SqL.of (s4 _ _ hpo), atI_nat (by rw [List.getElem?_map, List.getElem?_eq_getElem hkl]; rfl), ?_⟩
        refine ⟨_, rfl, _, rfl, _, _, rfl, rfl, _, rfl, ite2 (fun c2 => ?_) (fun c2 => ?_)⟩
        · refine ⟨_, rfl, _, rfl, _, rfl, (by show 2 ≤ sizeLine; decide), fun pt hpt => ?_⟩
          refine ⟨_, _, some (.str y.1), some (.int y.2), some (.int (kno t y.1 : Nat)), _, s24.trans (Same.up hpt), .inr ⟨pt, kno t y.1, y.2.toNat, rfl, kl, by omega, by omega, ?_⟩, rfl⟩
          rw [upd_same, show (((y.2).toNat : Nat) : Int) = y.2 by omega]
        · exact ⟨_, v5, some (.str y.1), some (.int y.2), some (.int (kno t y.1 : Nat)), _, s24, hst.same s4, rfl⟩
      · exact ⟨_, v5, some (.str y.1), some (.int y.2), _, _, s2, hst, rfl⟩
    · rintro σ H2 ⟨b, v5, v6, v7, v8, v9, s2, hst, rfl⟩
      exact ⟨_, rfl, q H2 v5 (s1.trans s2) hst⟩
/-! ### heaviest -/
theorem scHv : FnScope ["task", "length", "found", "greatest", "number", "time", "releases", "step", "distance"] ["task", "length"] (defScope sHeaviest) := ⟨rfl, rfl, rfl, by decide +kernel, rfl, by decide +kernel, by decide +kernel⟩
def spHv (ad : Str → Addr) : Sp := fun vs H Q _ => ∃ (a : Addr) (t : Tk) (n : Nat), vs = [.ref a, .int (n : Nat)] ∧ TkAt ad H a t ∧ WfT t ∧ n ≤ 1000 ∧ ∀ H' p xs, Same H H' → H p = none → LTups hvV H' p xs → xs.length ≤ 1001 → Q (.ref p) H'
theorem T_hv (T : Tx K mg ad fd) : Binds K (fd "heaviest") ["task", "length"] [] := T.heaviest.fn.binds fun _ _ _ _ _ _ us hl => match us, hl with | [_, _], _ => rfl
theorem Tups.snoc {α : Type} {f : α → List V} {H : Hp} {as : List Addr} {xs : List α} {p : Addr} {x : α} (h : Tups f H as xs) (hp : H p = some (.tup (f x))) : Tups f H (as ++ [p]) (xs ++ [x]) := by
  refine ⟨by simp [h.1], fun i y e => ?_⟩
  by_cases hi : i < xs.length
  · rw [List.getElem?_append_left hi] at e
    obtain ⟨q, h1, h2⟩ := h.2 i y e
    exact ⟨q, by rw [List.getElem?_append_left (by rw [h.1]; exact hi)]; exact h1, h2⟩
  · have hl := (List.getElem?_eq_some_iff.mp e).1
    rw [List.length_append, List.length_singleton] at hl
    have hi' : i = xs.length := by omega
    subst hi'
    rw [List.getElem?_append_right (Nat.le_refl _), Nat.sub_self] at e
    cases e
    exact ⟨p, by rw [← h.1, List.getElem?_append_right (Nat.le_refl _), Nat.sub_self]; rfl, hp⟩
theorem Tups.keepL {α : Type} {f : α → List V} {H H' : Hp} {as : List Addr} {xs : List α} {q : Addr} {ys : List V} (h : Tups f H as xs) (hq : H q = some (.lst ys)) (k : ∀ b o, b ≠ q → H b = some o → H' b = some o) : Tups f H' as xs :=
  ⟨h.1, fun i x e => let ⟨p, h1, h2⟩ := h.2 i x e; ⟨p, h1, k _ _ (ne_of h2 hq (by simp)) h2⟩⟩
theorem first_at {l : List Int} {m : Int} (h : m ∈ l) : ∃ j, l[j]? = some m ∧ ∀ (i : Nat) (x : Int), i < j → l[i]? = some x → ¬ x = m := by
  have hlt : l.findIdx (fun x => decide (x = m)) < l.length := List.findIdx_lt_length_of_exists ⟨m, h, by simp⟩
  refine ⟨l.findIdx fun x => decide (x = m), ?_, fun i x hi e => ?_⟩
  · rw [List.getElem?_eq_getElem hlt]
    have := List.findIdx_getElem (w := hlt)
    simpa using this
  · have := List.not_of_lt_findIdx hi
    obtain ⟨h1, h2⟩ := List.getElem?_eq_some_iff.mp e
    rw [h2] at this
    simpa using this
theorem ok_hv (T : Tx K mg ad fd) : FnOk P w K mg base CX0 5 (ad "heaviest") (fd "heaviest") ["task", "length"] (spHv ad) := by
  refine T.heaviest.fn.ok scHv (fun vs H Q E h => ?_) (fun cdv A outer s H vs Q E hr h => ?_)
  · obtain ⟨a, t, n, rfl, _⟩ := h
    rfl
  · obtain ⟨a, t, n, rfl, ht, wf, hn, q⟩ := h
    refine ⟨_, pss_cons (ps_set (i := 2) scHv.nd rfl (.inl rfl) (pe_call (ok_rows T) hr (by rfl) T.rows.gl T.rows.fn.kp (T_rows T) .nil pass0 (pa_cons (pv 0) (pa_cons (pv 1) pa_nil))))
      (pss_cons (ps_set (i := 3) scHv.nd rfl (.inl rfl) (pe_callB (cr_max rfl) (by rfl) T.b_max boot_max (pa_cons (pe_ix ix_list (pv 2) (pv 1) (fun _ _ => rfl)) pa_nil)))
      (pss_cons (ps_if (pt_cmpR op_eq (pv 3) pe_int (nomark _)) (pss_one (ps_ret (pe_lst pa_nil))) pss_nil)
      (pss_cons (ps_set (i := 4) scHv.nd rfl (.inl rfl) (pe_bm PySem.F.plainAttrs_list PySem.F.slot_list_index PySem.F.type_list_index mt_index (pe_ix ix_list (pv 2) (pv 1) (fun _ _ => rfl)) (pa_cons (pv 3) pa_nil)))
      (pss_cons (ps_set (i := 5) scHv.nd rfl (.inl rfl) pe_int)
      (pss_cons (ps_set (i := 6) scHv.nd rfl (.inl rfl) (pe_lst (pa_cons (pe_tup (pa_cons pe_int (pa_cons (pe_ix ix_tup (pe_ix ix_tup (pe_fld (pv 0) rfl) (pv 4) (fun _ _ => rfl)) pe_int (fun _ _ => rfl)) pa_nil))) pa_nil)))
      (pss_one (ps_while PassesOwn.never (pt_val pe_bl)
        (pss_cons (ps_set (i := 7) scHv.nd rfl (.inl rfl) (pe_call (ok_bt T) (hr.mono (by decide)) (by rfl) T.bestStep.gl T.bestStep.fn.kp (T_bt T) .nil pass0 (pa_cons (pv 0) (pa_cons (pe_ix ix_tup (pe_ix ix_tup (pe_fld (pv 0) rfl) (pv 4) (fun _ _ => rfl)) pe_int (fun _ _ => rfl)) (pa_cons (pe_op op_sub (pv 1) (pv 5)) (pa_cons (pv 2) pa_nil))))))
        (pss_cons (ps_if (pt_cmpR op_isN (pv 7) pe_non (nomark _)) (pss_one (ps_ret (pv 6))) pss_nil)
        (pss_cons (ps_asg (pv 7) (pg_tup rfl (pgs_cons (pg_name (i := 4) scHv.nd rfl (.inl rfl)) (pgs_cons (pg_name (i := 8) scHv.nd rfl (.inl rfl)) pgs_nil))))
        (pss_cons (ps_aug (i := 5) scHv.nd rfl (.inl rfl) (pv 8) ip_add)
        (pss_one (ps_expr (pe_bm PySem.F.plainAttrs_list PySem.F.slot_list_append PySem.F.type_list_append mt_append (pv 6) (pa_cons (pe_tup (pa_cons (pv 5) (pa_cons (pe_ix ix_tup (pe_ix ix_tup (pe_fld (pv 0) rfl) (pv 4) (fun _ _ => rfl)) pe_int (fun _ _ => rfl)) pa_nil))) pa_nil))))))))))))))), ?_⟩
    refine ⟨_, rfl, _, rfl, a, t, n, rfl, ht, wf, hn, fun H1 f ras s1 hf hfo hrs _ => ?_⟩
    have hlen : (rowsN t (n + 1)).length = n + 1 := rowsN_len t _
    have hrow := rowsN_row t (n + 1)
    have hnl : n < (rowsN t (n + 1)).length := by omega
    obtain ⟨pr, hpr, hpo⟩ := hrs.get (List.getElem?_eq_getElem hnl)
    have hrl := hrow _ (List.getElem_mem hnl)
    generalize (rowsN t (n + 1))[n] = row at hpr hpo hrl
    refine ⟨_, rfl, _, rfl, _, _, _, _, rfl, rfl, SqL.of hfo, atI_nat hpr, pr, row, rfl, SqL.of hpo, by rw [hrl]; exact wf.ne, fun m hm hle => ?_⟩
    refine ⟨_, rfl, rfl, _, rfl, ite2 (fun c => ?_) (fun c => ?_)⟩
    · refine ⟨(by show 0 ≤ sizeLine; decide), fun p hp => ?_⟩
      exact q _ p [] (s1.trans (Same.up hp)) (s1.free hp) ⟨[], upd_same, rfl, fun i x e => by simp at e⟩ (by decide)
    obtain ⟨j, hj1, hj2⟩ := first_at hm
    have hjk : j < t.kinds.length := by rw [← hrl]; exact (List.getElem?_eq_some_iff.mp hj1).1
    obtain ⟨dx, ka, wa, kas, was, O⟩ := id ht
    have O1 := O.same s1
    have kAt : ∀ k : Nat, k < t.kinds.length → ∃ y p, t.kinds[k]? = some y ∧ (kas.map V.ref)[k]? = some (.ref p) ∧ H1 p = some (.tup (kdV y)) := fun k hk => by
      obtain ⟨p, h1, h2⟩ := O1.ks.at (List.getElem?_eq_getElem hk)
      exact ⟨_, p, List.getElem?_eq_getElem hk, h1, h2⟩
    obtain ⟨y0, p0, hy0, hp0, hp0o⟩ := kAt j hjk
    refine ⟨_, rfl, _, rfl, _, _, _, _, rfl, rfl, SqL.of hfo, atI_nat hpr, .inl ⟨rfl, _, SqL.of hpo⟩, _, rfl, pr, _, _, j, .int m, rfl, rfl, SqL.of hpo, rfl, by simp [flatV], by rw [List.getElem?_map, hj1]; rfl, by simp [eqV], fun i z hi hz => ?_, ?_⟩
    · rw [List.getElem?_map] at hz
      cases e : row[i]? with
      | none => rw [e] at hz; cases hz
      | some x =>
        rw [e] at hz
        cases hz
        have := hj2 i x hi e
        simp [eqV, this]
    refine ⟨_, rfl, a, _, dx, _, _, rfl, O1.ob, T.taskInit.cl, T.nTask_kinds, rfl, _, rfl, _, _, _, _, rfl, rfl, SqT.of O1.ko, atI_nat hp0, _, _, _, _, rfl, rfl, SqT.of hp0o, rfl, (by show 2 ≤ sizeLine; decide), fun u hu => ⟨(by show 1 ≤ sizeLine; decide), fun rl hrl' => ?_⟩⟩
    have s2 : Same H1 (upd H1 u (.tup [.int 0, .str y0.1])) := Same.up hu
    have s3 := s2.trans (Same.up (o := .lst [.ref u]) hrl')
    have hrl1 : H1 rl = none := s2.free hrl'
    obtain ⟨W, hW⟩ : ∃ W : Nat → L2.St → Hp → Prop, W = fun m' σ H' => ∃ (k tm : Nat) (as : List Addr) (xs : List (Int × Str)) (v7 v8 : Option V), Same H1 H' ∧ k < t.kinds.length ∧ tm ≤ n ∧ m' = n - tm ∧ H' rl = some (.lst (as.map V.ref)) ∧ Tups hvV H' as xs ∧ xs.length ≤ tm + 1 ∧
        σ = [some (.ref a), some (.int (n : Nat)), some (.ref f), some (.int m), some (.int (k : Nat)), some (.int (tm : Nat)), some (.ref rl), v7, v8] := ⟨_, rfl⟩
    refine ⟨W, ⟨n, by
      rw [hW]
      refine ⟨j, 0, [u], [(0, y0.1)], none, none, s3, hjk, by omega, by omega, upd_same, ⟨rfl, fun i x e => ?_⟩, by simp, rfl⟩
      cases i with
      | zero => cases e; exact ⟨u, rfl, by rw [upd_ne (ne_of_none upd_same hrl'), upd_same]; rfl⟩
      | succ i => simp at e⟩, ?_⟩
    rintro m' σ H3 hw
    rw [hW] at hw
    obtain ⟨k, tm, as, xs, v7, v8, s4, hk, htm, hm', hro, hts, hxl, rfl⟩ := hw
    refine ⟨true, rfl, ite2 (fun _ => ?_) (fun c => absurd rfl c)⟩
    refine ⟨fun σ' H' => ∃ m2, m2 < m' ∧ W m2 σ' H', fun σ' H' h => h, ?_⟩
    obtain ⟨y, p, hy, hp, hpo'⟩ := kAt k hk
    have O3 := O1.same s4
    have er : ((n : Nat) : Int) - ((tm : Nat) : Int) = ((n - tm : Nat) : Int) := by omega
    refine ⟨_, rfl, _, rfl, a, _, dx, _, _, rfl, O3.ob, T.taskInit.cl, T.nTask_kinds, rfl, _, rfl, _, _, _, _, rfl, rfl, SqT.of O3.ko, atI_nat hp, _, _, _, _, rfl, rfl, SqT.of (s4 _ _ hpo'), rfl, _, rfl, _, rfl, _, _, rfl, rfl, _, rfl, a, f, t, y.1, n - tm, ras, rowsN t (n + 1), by rw [← er]; rfl, (ht.same s1).same s4, wf, hasK_mem (List.mem_of_getElem? hy), s4 _ _ hfo, hrs.same s4, by omega, hrow, fun H4 sv s5 hst => ?_⟩
    have s45 := s4.trans s5
    rcases hst with rfl | ⟨ps, k2, d, rfl, hk2, hd1, hd2, hpso⟩
    · refine ⟨_, rfl, rfl, _, rfl, ite2 (fun _ => ?_) (fun c => absurd (by decide) c)⟩
      exact ⟨_, rfl, q H4 rl xs (s1.trans s45) (s1.free hrl1) ⟨as, s5 _ _ hro, hts.same s5⟩ (by omega)⟩
    · refine ⟨_, rfl, rfl, _, rfl, ite2 (fun c => absurd (of_decide_eq_true c) (fun z => nomatch z)) (fun _ => ?_)⟩
      refine ⟨_, rfl, ps, _, rfl, SqT.of hpso, rfl, _, _, rfl, _, _, rfl, rfl, ?_⟩
      refine ⟨_, rfl, _, rfl, _, _, rfl, rfl, ?_⟩
      obtain ⟨y2, p2, hy2, hp2, hp2o⟩ := kAt k2 hk2
      have O4 := O1.same s45
      have et : ((tm : Nat) : Int) + ((d : Nat) : Int) = ((tm + d : Nat) : Int) := by omega
      refine ⟨_, rfl, .inl ⟨rfl, _, SqL.of (s5 _ _ hro)⟩, _, rfl, _, rfl, a, _, dx, _, _, rfl, O4.ob, T.taskInit.cl, T.nTask_kinds, rfl, _, rfl, _, _, _, _, rfl, rfl, SqT.of O4.ko, atI_nat hp2, _, _, _, _, rfl, rfl, SqT.of (s45 _ _ hp2o), rfl, (by show 2 ≤ sizeLine; decide), fun q2 hq2 => ?_⟩
      have s6 : Same H4 (upd H4 q2 (.tup [.int (((tm : Nat) : Int) + ((d : Nat) : Int)), .str y2.1])) := Same.up hq2
      have hro4 := s6 _ _ (s5 _ _ hro)
      refine ⟨rl, _, _, rfl, rfl, hro4, small (by rw [List.length_map, hts.1]; omega), ?_⟩
      refine ⟨n - (tm + d), by omega, ?_⟩
      rw [hW]
      refine ⟨k2, tm + d, as ++ [q2], xs ++ [(((tm + d : Nat) : Int), y2.1)], some (.ref ps), some (.int (d : Nat)), Same.up2 (s45.trans s6) hrl1, hk2, by omega, rfl, by rw [upd_same, List.map_append]; rfl, ?_, by simp; omega, ?_⟩
      · refine Tups.keepL (q := rl) (H := upd H4 q2 (.tup [.int (((tm : Nat) : Int) + ((d : Nat) : Int)), .str y2.1])) ?_ hro4 fun b o hb e => by rw [upd_ne hb]; exact e
        refine Tups.snoc ((hts.same s5).same s6) ?_
        rw [upd_same, et]
        rfl
      · rw [← et]
        rfl
/-! ### shift -/
end
end Nl
set_option maxHeartbeats 4000000
namespace Nl
open PySem PySem.Spec PyProof.Rows L2
section
variable {P : Program} {w : World} {K : PySem.W.Frag} {mg : Str → Option Value} {base : Heap} {ad : Str → Addr} {fd : Str → FuncData}
/-! ### shift -/
theorem scSf2 : FnScope ["releases", "by", "time", "kind"] ["releases", "by"] (defScope sShift) := ⟨rfl, rfl, rfl, by decide +kernel, rfl, by decide +kernel, by decide +kernel⟩
def spShift : Sp := fun vs H Q _ => ∃ (p : Addr) (xs : List (Int × Str)) (b : Int), vs = [.ref p, .int b] ∧ LTups hvV H p xs ∧ xs.length ≤ 1001 ∧ ∀ H' p' ys, Same H H' → H p' = none → H' p' = some (.lst ys) → ys.length ≤ 1001 → Q (.ref p') H'
theorem T_shift (T : Tx K mg ad fd) : Binds K (fd "shift") ["releases", "by"] [] := T.shift.fn.binds fun _ _ _ _ _ _ us hl => match us, hl with | [_, _], _ => rfl
theorem ok_shift (T : Tx K mg ad fd) : FnOk P w K mg base CX0 1 (ad "shift") (fd "shift") ["releases", "by"] spShift := by
  refine T.shift.fn.ok scSf2 (fun vs H Q E h => ?_) (fun cdv A outer s H vs Q E hr h => ?_)
  · obtain ⟨p, xs, b, rfl, _⟩ := h
    rfl
  · obtain ⟨p, xs, b, rfl, ⟨as, hp, hts⟩, hl, q⟩ := h
    refine ⟨_, pss_one (ps_ret (pe_lc (own := [("time", 2), ("kind", 3)]) (g := gTup K 2 (gCons (gName 2) (gCons (gName 3) gNil))) (tt := tYes) rfl scSf2.nd (pi_list (pv 0)) (blkOk_by (own := [("time", 2), ("kind", 3)]) (N := ["releases", "by", "time", "kind"]) (sc := defScope sShift) (by decide +kernel))
      (fun _ _ _ _ _ => pg_tupK K rfl (pgs_cons (pg_name (i := 2) scSf2.nd rfl (Or.inl rfl)) (pgs_cons (pg_name (i := 3) scSf2.nd rfl (Or.inl rfl)) pgs_nil))) (fun _ _ _ _ _ => pts_nil)
      (fun _ _ _ _ _ => pe_tup (pa_cons (pe_op op_add (pv 2) (pv 1)) (pa_cons (pv 3) pa_nil))))), ?_⟩
    have hal : (as.map V.ref).length = xs.length := by rw [List.length_map, hts.1]
    refine ⟨_, rfl, p, rfl, ⟨_, SqL.of hp⟩, fun D hD => lc_same (walk_list (a := p) (xs := as.map V.ref)) (fun _ _ _ => True) (fun _ _ _ _ h _ => h) (by rw [hal]; omega) hD (fun H' s' => SqL.of (s' _ _ hp)) ?_ ?_⟩
    · rintro i v H2 H3 acc Kc hi s2 hD2 ⟨rfl, ev⟩ hc
      obtain ⟨u, y, rfl, hu, hy, hut⟩ := (hts.same s2).get ev
      refine ⟨_, _, rfl, SqT.of hut, rfl, _, _, rfl, _, _, rfl, rfl, rfl, ?_⟩
      refine ⟨_, rfl, _, rfl, _, _, rfl, rfl, _, rfl, (by show 2 ≤ sizeLine; decide), fun q2 hq2 => hc _ _ (Same.up hq2) trivial⟩
    · intro H1 ys s1 h1 h2 h3
      exact q H1 D ys s1 hD h1 (by rw [h2, hal]; exact hl)
/-! ### Miss.__init__ -/
theorem scMi : FnScope ["self", "instant", "start", "releases", "row"] ["self", "instant", "start", "releases"] (defScope sMissInit) := ⟨rfl, rfl, rfl, by decide +kernel, rfl, by decide +kernel, by decide +kernel⟩
def spMi (ad : Str → Addr) : Sp := fun vs H Q _ => ∃ (x dx rl : Addr) (e s : Int) (as : List Addr), vs = [.ref x, .int e, .int s, .ref rl] ∧ H x = some (.ins (ad "Miss") dx []) ∧ H rl = some (.lst (as.map V.ref)) ∧ as.length ≤ 1000 ∧ (∀ p ∈ as, ∃ ys, H p = some (.lst ys)) ∧
  ∀ H', SameX x H H' → Q .non H'
theorem T_mi (T : Tx K mg ad fd) : Binds K (fd "Miss.__init__") ["self", "instant", "start", "releases"] [] := T.missInit.fn.binds fun _ _ _ _ _ _ us hl => match us, hl with | [_, _, _, _], _ => rfl
theorem ok_mi (T : Tx K mg ad fd) : FnOk P w K mg base CX0 1 (ad "Miss.__init__") (fd "Miss.__init__") ["self", "instant", "start", "releases"] (spMi ad) := by
  refine T.missInit.fn.ok scMi (fun vs H Q E h => ?_) (fun cdv A outer s H vs Q E hr h => ?_)
  · obtain ⟨x, dx, rl, e, s, as, rfl, _⟩ := h
    rfl
  · obtain ⟨x, dx, rl, e, st, as, rfl, hx, hrl, hal, has, q⟩ := h
    refine ⟨_, pss_cons (ps_fld (pv 0) (pv 1) rfl)
      (pss_cons (ps_fld (pv 0) (pv 2) rfl)
      (pss_one (ps_fld (pv 0) (pe_lc (own := [("row", 4)]) (g := gName 4) (tt := tYes) rfl scMi.nd (pi_list (pv 3)) (blkOk_by (own := [("row", 4)]) (N := ["self", "instant", "start", "releases", "row"]) (sc := defScope sMissInit) (by decide +kernel)) (fun _ _ _ _ _ => pg_name (i := 4) scMi.nd rfl (Or.inl rfl)) (fun _ _ _ _ _ => pts_nil)
        (fun _ _ _ _ _ => pe_callTy (cr_listK K) (by rfl) T.b_list boot_list (pa_cons (pv 4) pa_nil))) rfl))), ?_⟩
    refine ⟨_, rfl, _, rfl, x, _, dx, _, rfl, hx, T.missInit.cl, T.nMiss_instant, by decide, ?_⟩
    refine ⟨_, rfl, _, rfl, x, _, dx, _, rfl, upd_same, T.missInit.cl, T.nMiss_start, (by show 1 < 1000; decide), ?_⟩
    rw [upd_upd]
    have sx : SameX x H (upd H x (.ins (ad "Miss") dx (putF "start" (V.int st) (putF "instant" (V.int e) [])))) := SameX.upd
    have hrx : rl ≠ x := ne_of hrl hx (by simp)
    have hrl1 := sx _ _ hrx hrl
    have hal' : (as.map V.ref).length ≤ 1000 := by rw [List.length_map]; exact hal
    refine ⟨_, rfl, rl, rfl, ⟨_, SqL.of hrl1⟩, fun D hD => lc_same (walk_list (a := rl) (xs := as.map V.ref)) (fun _ _ _ => True) (fun _ _ _ _ h _ => h) (by omega) hD (fun H' s' => SqL.of (s' _ _ hrl1)) ?_ ?_⟩
    · rintro i v H2 H3 acc Kc hi s2 hD2 ⟨rfl, ev⟩ hc
      rw [List.getElem?_map] at ev
      cases ea : as[i]? with
      | none => rw [ea] at ev; cases ev
      | some p =>
        rw [ea] at ev
        cases ev
        obtain ⟨ys, hp⟩ := has p (List.mem_of_getElem? ea)
        have hp2 := s2 _ _ (sx _ _ (ne_of hp hx (by simp)) hp)
        exact ⟨rfl, _, rfl, p, ys, rfl, .inl (SqL.of hp2), fun l hl => hc _ _ (Same.up hl) trivial⟩
    · intro H1 ys s1 h1 h2 h3
      refine ⟨_, rfl, x, _, dx, _, rfl, s1 _ _ upd_same, T.missInit.cl, T.nMiss_releases, (by show 2 < 1000; decide), ?_⟩
      exact q _ ((sx.trans (SameX.of s1)).trans SameX.upd)
end
end Nl
set_option maxHeartbeats 4000000
/-! UE: raise Undecided(horizon); e.horizon. (The parts LowX of skel 42, turned to a class whose __init__ says super().__init__(..).) -/
namespace Nl
open PySem PySem.W PySem.Calls PyProof.Rows PySem.HandSPX
/-- what the written part says of Undecided, at C, and of its __init__, at fI -/
structure UndT (P : Program) (K : Frag) (mg : Str → Option Value) (C fI : Addr) : Prop where
  gC : mg "Undecided" = some (.ref C)
  gS : mg "super" = none
  cls : ∃ nm q N bs bm sn sub ab col dd k0 k1 k2 k3 k5, K.lookup C = some (excClassObj nm q C N bs bm true sn sub ab col dd k0 k1 k2 k3 k5 "ValueError.__new__") ∧ refsVE bm = true
  sa : findIn K (.ref C) "__setattr__" = some (some (.builtin "object.__setattr__"))
  ga : findIn K (.ref C) "__getattribute__" = some (some (.builtin "BaseException.__getattribute__"))
  gg : findIn K (.ref C) "__getattr__" = some none
  noN : findIn K (.ref C) "horizon" = some none
  iC : findIn K (.ref C) "__init__" = some (some (.ref fI))
  tC : typeIn K (.ref fI) = some (.type "function")
  kC : keepIn K (.ref C) = true
  exC : subIn K (.ref C) (.type "BaseException") = some true
  veC : subIn K (.ref C) (.type "ValueError") = some true
  tyC : typeIn K (.ref C) = some (.type "type")
  hdC : hasDictIn K C = true
  te : exmOne K (.ref C) (.ref C) = some true
  opq : nsIn K cStatics "thirdparty.any" = some none
  sup : ks_superIn K C C "__init__" = some (some (.builtin "ValueError.__init__"))
  slf : mroIn K C (.ref C) = some true
  top : (P.main.scope.names.lookup ("super" : Str)).isSome = false
  fn : ∃ (oc kV doc pm ct ccl cl : Value) (od an cdd cld : Option Addr) (osl ccs csl : Array (Option Value)) (cda cc : Addr) (vs : Array Value) (file : Str) (tf : Tok),
    K.lookup fI = some ⟨oc, od, .func (ksFn "__init__" "Undecided.__init__" (L2.defArgs sUndecidedInit) (L2.defBody sUndecidedInit) (L2.defScope sUndecidedInit) .none kV doc pm an (.ref cda) ct cc), osl⟩ ∧ codeIn K (.ref cda) "Undecided.__init__" = true ∧
      K.lookup cda = some ⟨ccl, cdd, .fields vs, ccs⟩ ∧ vs[2]? = some (.str file tf) ∧ ((P.main.file : Str) == file) = true ∧ K.lookup cc = some ⟨cl, cld, .cell (some (.ref C)), csl⟩
theorem one_size (v : Value) : [v].length ≤ sizeLine := by
  rw [sizeLine_eq]
  exact (by decide : 1 ≤ 16777216)
/-- what __init__ leaves of a fresh exception at x -/
structure InitEnd (h h' : Heap) (x C dx t1 : Addr) (v : Value) : Prop where
  keep : ∀ b o, b ≠ x → h.get? b = some o → h'.get? b = some o
  obj : h'.get? x = some { cls := .ref C, dict := some dx, data := .fields #[.ref t1, .none, .none, .none, .bool false, .none] }
  dbig : h.objs.size ≤ dx
  dne : dx ≠ x
  ns : h'.Ns1 dx (fun y => if y = "horizon" then some v else none)
/-- a made Undecided -/
structure OwnMade (h h' : Heap) (e C d : Addr) (v : Value) : Prop where
  keep : ∀ b o, h.get? b = some o → h'.get? b = some o
  new : h.objs.size ≤ e
  obj : ∃ oe vs, h'.get? e = some oe ∧ oe.cls = .ref C ∧ oe.dict = some d ∧ oe.data = .fields vs ∧ vs[1]? = some .none
  dbig : h.objs.size ≤ d
  dne : d ≠ e
  ns : h'.Ns1 d (fun y => if y = "horizon" then some v else none)
section
variable {prog : Program} {w : World} {A : Around} {E : Value → Shared → Prop} {R : Result → Shared → Prop} {s : Shared} {K : Frag} {mg : Str → Option Value} {C fI : Addr}
theorem call_wr {h : Heap} {g : Array GenState} {d : Drawn} {tk : Nat} {os : OsState} {u x C t0 N : Addr} {rest : List Value} {nm q : Str} {bs bm : List Value} {hdct : Bool} {sn : List Str} {sub : List Value} {ab : Bool} {col : Option Bool} {dd : Option Addr} {k0 k1 k2 k3 k5 : Option Value} {Q : Value → Shared → Prop}
    (hu : h.get? u = some (kxs_mw "ValueError.__init__" x)) (hC : h.get? C = some (excClassObj nm q C N bs bm hdct sn sub ab col dd k0 k1 k2 k3 k5 "ValueError.__new__")) (he : h.get? x = some (excO C t0)) (hz : rest.length ≤ sizeLine)
    (hq : ∀ h' t1, (∀ b o, b ≠ x → h.get? b = some o → h'.get? b = some o) → h'.get? x = some (excO C t1) → Q .none ⟨h', g, d, tk, os⟩) : wpAny (model prog w) A (call (.ref u) rest) Q E ⟨h, g, d, tk, os⟩ := by
  have FB := F.excBase_ValueError
  refine wpAny_call (codeAny_of_tree ?_)
  show wpAny _ A.in1 (callAny (.ref u) ⟨rest, []⟩) _ _ _
  simp only [callAny]
  refine wpAny_bind (wpAny_load hu ?_)
  simp only [kxs_mw, show (Value.type "method-wrapper" == Value.type "method" || Value.type "method-wrapper" == Value.type "builtin_function_or_method" || Value.type "method-wrapper" == Value.type "method-wrapper") = true by decide, if_true]
  refine KFB.if_so (by decide) ?_
  refine wpAny_bind (check_bound_init FB.toExcCallFacts hC he rfl ?_)
  refine wpAny_bind (wpAny_pure (wpAny_pure ?_))
  refine ⟨plainId_quiet FB.init.plain _, codeAny_builtin FB.initEntry ?_⟩
  exact exc_init_tree (cls := .ref C) (t0 := t0) (dv := none) (c2 := .none) (c3 := .none) (b4 := .bool false) he hz fun h' k e _ => hq h' _ k e
theorem und_init (T : UndT prog K mg C fI) {x t0 : Addr} {v : Value} {mb : Str → Option Value} (X : K.In s.heap) (hlim : s.heap.NoLimit) (hg : s.heap.Ns mainGlobals mg) (hb : s.heap.Ns builtinsNs mb) (hbs : mb "super" = some (.type "super")) (hx : s.heap.get? x = some (excO C t0)) (hnx : K.lookup x = none) (hroom : A.depth < recursionLimit)
    (hq : ∀ h' tk dx t1, InitEnd s.heap h' x C dx t1 v → R (.ok (.ret .none)) { s with heap := h', toks := tk }) :
    codeAny (model prog w) A (.call (.ref fI) ⟨[.ref x, v], []⟩) R s := by
  obtain ⟨oc, kV, doc, pm, ct, ccl, cl, od, an, cdd, cld, osl, ccs, csl, cda, cc, vs, file, tf, ho, hcd, hcode, hvs, hfile, hcell⟩ := T.fn
  obtain ⟨nm, q, N, bs, bm, sn, sub, ab, col, dd, k0, k1, k2, k3, k5, hC, hbm⟩ := T.cls
  have hcl : clsIn K C = some { name := nm, bases := bs, mro := .ref C :: bm, ns := N, qualname := q, hasDict := true, slotNames := sn, subclasses := sub, abstract := ab, collection := col, hasDel := false } := by unfold clsIn; rw [hC] <;> rfl
  have hcel : ∀ y ∈ (L2.defScope sUndecidedInit).names, y.2 ≠ .cell := by decide +kernel
  refine ks_codeAny_call_defAt (fd := ksFn "__init__" "Undecided.__init__" (L2.defArgs sUndecidedInit) (L2.defBody sUndecidedInit) (L2.defScope sUndecidedInit) .none kV doc pm an (.ref cda) ct cc) (body := L2.defBody sUndecidedInit) (binds := [("self", .ref x), ("horizon", v)])
    hroom (X _ _ ho) rfl hlim (codeRec_of X hcd) rfl (BindsTo.of_eq (by first | rfl | with_unfolding_all rfl)) hcel (fun y hy => by
      rcases List.mem_cons.mp hy with rfl | hy
      · rfl
      · rw [List.mem_singleton.mp hy]; rfl) (fun h₁ hns k => ?_) rfl rfl rfl
  have X₁ : K.In h₁ := X.keeps k
  have hx₁ := k _ _ hx
  have hg₁ := hg.keeps k
  have hb₁ := hb.keeps k
  obtain ⟨hp, g, dr, tk, os⟩ := s
  have hD : h₁.get? C = some (excClassObj nm q C N bs bm true sn sub ab col dd k0 k1 k2 k3 k5 "ValueError.__new__") := X₁ _ _ hC
  have hnxL : hp.objs.size ≠ x := Nat.ne_of_gt (Heap.lt_size hx)
  refine ks_wpAt_execs_cons (ks_wpAt_Expr_any (ks_wpAt_MethodCall ?_))
  refine ks_wpAt_super_base (ar := ⟨"self", none, ⟨28, 17, 28, 21⟩⟩) (by rfl) (by rfl) (by rfl) rfl (k _ _ (X _ _ ho)) rfl (by rfl) rfl (X₁ _ _ hcode) rfl hvs hfile T.top ?_
  refine ks_loadName_global (by rfl) (by rfl) (loadGlobal_builtin hg₁ T.gS hb₁ hbs ⟨rfl, ?_⟩)
  refine wpAny_loadName_free (by rfl) (by rfl) rfl ⟨_, X₁ _ _ hcell, rfl⟩ ?_
  refine wpAny_loadName_local (by rfl) (by rfl) hns (by rfl) ?_
  refine ks_wpAny_isType_cls hD rfl ⟨rfl, ?_⟩
  refine ks_wpAny_call_super hD rfl hx₁ rfl (fun c e => by cases e) (looks_mroIn X₁ T.slf) (fun h2 e2 k2 => ?_)
  have X₂ : K.In h2 := X₁.keeps k2
  have hx₂ := k2 _ _ hx₁
  refine kxs_getMethod kxs_ValueError e2 (looks_opaque X₂ T.opq) (l₀ := .ref C :: bm) (fun A Q E s k q => wpAny_bind ((looks_clsIn X₂ hcl) A _ E s k (wpAny_pure q))) rfl X₂ ?_ ?_ ?_ (by rfl) ?_
  · have := T.sup
    unfold ks_superIn at this
    rw [hcl] at this
    exact this
  · exact (InstAt.type (C := C) (od := none) ⟨hx₂, rfl, rfl, trivial⟩).andThen (looks_subIn X₂ T.veC)
  · intro z
    rw [z, k2 _ _ hD] at hx₂
    cases hx₂
  · show wpAny _ _ (callWith _ (.ref h2.objs.size) [] _ []) _ _ _
    have hu : (h2.push (kxs_mw "ValueError.__init__" x)).get? h2.objs.size = some (kxs_mw "ValueError.__init__" x) := Heap.get?_push_at rfl rfl
    have k3 : ∀ b o, h2.get? b = some o → (h2.push (kxs_mw "ValueError.__init__" x)).get? b = some o := fun b o e => Heap.get?_push_of_some _ e
    refine kxs_callWith (i := "ValueError.__init__") (x := x) (by rfl) (evalArgs_plain ?_)
    refine spliced_cons (Constant_str (k := 0) (pos := ⟨29, 25, 29, 36⟩) (spliced_nil ⟨hu, ?_⟩))
    refine call_wr hu (k3 _ _ (k2 _ _ hD)) (k3 _ _ hx₂) (one_size _) fun h4 t1 k4 hx4 => ?_
    have K4 : ∀ b o, b ≠ x → hp.get? b = some o → h4.get? b = some o := fun b o hb e => k4 b o hb (k3 _ _ (k2 _ _ (k _ _ e)))
    have X₄ : K.In h4 := fun b o e => K4 b o (fun z => by rw [z, hnx] at e; cases e) (X b o e)
    have hn4 : h4.Ns hp.objs.size (fun y => [(("self" : Str), Value.ref x), ("horizon", v)].reverse.lookup y) := by
      obtain ⟨oL, es, ep, hL, r⟩ := hns
      exact ⟨oL, es, ep, k4 _ _ hnxL (k3 _ _ (k2 _ _ hL)), r⟩
    refine ks_wpAt_execs_cons (wpAt_of_wpAny ?_)
    refine plainObj_wpAny_Assign_Attribute ?_
    refine wpAny_Name (wpAny_loadName_local (by rfl) (by rfl) hn4 (by rfl) ?_) (by rfl)
    refine wpAny_Name (wpAny_loadName_local (by rfl) (by rfl) hn4 (by rfl) ?_) (by rfl)
    refine set_plain X₄ (ox := excO C t1) (od := none) ⟨hx4, rfl, rfl, trivial⟩ T.sa ?_
    refine exc_osa X₄ hx4 hcl (show refsVE (.ref C :: bm) = true from hbm) rfl T.noN (fun h5 tk5 dx k5 dn dne hx5 hn5 => ?_)
    have z1 : hp.objs.size < h4.objs.size := hn4.lt
    have z0 : hp.objs.size ≤ h4.objs.size := Nat.le_of_lt z1
    refine wpAt_of_wpAny (wpAny_execs_nil ?_)
    exact hq h5 _ dx t1 ⟨fun b o hb e => k5 b o hb (K4 b o hb e), hx5, Nat.le_trans z0 dn, dne, hn5⟩
theorem und_made (T : UndT prog K mg C fI) {v : Value} {mb : Str → Option Value} (X : K.In s.heap) (hlim : s.heap.NoLimit) (hg : s.heap.Ns mainGlobals mg) (hb : s.heap.Ns builtinsNs mb) (hbs : mb "super" = some (.type "super")) (hroom : A.depth + 1 < recursionLimit)
    (hq : ∀ h' tk e d, OwnMade s.heap h' e C d v → R (.ok (.ret (.ref e))) { s with heap := h', toks := tk }) :
    codeAny (model prog w) A (.call (.ref C) ⟨[v], []⟩) R s := by
  obtain ⟨nm, q, N, bs, bm, sn, sub, ab, col, dd, k0, k1, k2, k3, k5, hC, hbm⟩ := T.cls
  obtain ⟨hp, g, dr, tk, os⟩ := s
  have k : ∀ b o, hp.get? b = some o → ((hp.push (kdv_tup [v])).push (excO C hp.objs.size)).get? b = some o := fun b o e => Heap.get?_push_of_some _ (Heap.get?_push_of_some _ e)
  have hget : ((hp.push (kdv_tup [v])).push (excO C hp.objs.size)).get? (hp.objs.size + 1) = some (excO C hp.objs.size) := by heap_get
  have hnx : K.lookup (hp.objs.size + 1) = none := by
    cases e : K.lookup (hp.objs.size + 1) with
    | none => rfl
    | some o =>
      have z : hp.get? (hp.objs.size + 1) = some o := X _ _ e
      exact absurd (Nat.lt_of_succ_lt (Heap.lt_size z)) (Nat.lt_irrefl _)
  refine call_own F.excBase_ValueError (fun X => refsVE_contains X bm hbm) (X _ _ hC) (looks_findIn X T.iC) (fun self => bind_fn X self T.tC) (one_size v) ?_
  refine und_init (s := ⟨(hp.push (kdv_tup [v])).push (excO C hp.objs.size), g, dr, tk, os⟩) T (X.keeps k) (hlim.keeps k) (hg.keeps k) (hb.keeps k) hbs hget hnx ?_ fun h' tk' dx t1 ⟨k', hx, dn, dne, hns⟩ => ?_
  · show A.depth + 1 < recursionLimit
    exact hroom
  · have old : ∀ b o, hp.get? b = some o → h'.get? b = some o := fun b o e => k' b o (Nat.ne_of_lt (Nat.lt_succ_of_lt (Heap.lt_size e))) (k b o e)
    have z : hp.objs.size + 1 + 1 ≤ dx := by
      first
        | (simpa only [Heap.size_push] using dn)
        | exact dn
        | (have q := dn; rw [Heap.size_push, Heap.size_push] at q; exact q)
    exact ⟨rfl, hq h' tk' (hp.objs.size + 1) dx ⟨old, Nat.le_succ _, ⟨_, _, hx, rfl, rfl, rfl, rfl⟩, Nat.le_trans (Nat.le_trans (Nat.le_succ _) (Nat.le_succ _)) z, dne, hns⟩⟩
end
end Nl
namespace L2
open PySem PySem.Spec PyProof.Rows
theorem relO_und {v : V} {v' : Value} (r : RelV v v') (f : Str) : RelO (List.lookup f [(("horizon" : Str), v)]) (if f = "horizon" then some v' else none) := by
  by_cases hw : f = "horizon"
  · subst hw
    rw [if_pos rfl]
    have q : List.lookup ("horizon" : Str) [(("horizon" : Str), v)] = some v := by simp [List.lookup]
    rw [q]
    exact r
  · rw [if_neg hw]
    have qw : (f == ("horizon" : Str)) = false := by simpa using hw
    have q2 : List.lookup f [(("horizon" : Str), v)] = none := by simp [List.lookup, qw]
    rw [q2]
    trivial
section
variable {X : Cx} {C fI : Addr}
/-- Undecided(e) -/
def tMkUnd (C : Addr) (ta : TA) : St → Hp → XK → Prop := fun σ H Q => ta σ H fun vs H1 => ∃ v, vs = [v] ∧ ∀ d, H1 d = none → Q (.ref C) (some d) (upd H1 d (.xd [(("horizon" : Str), v)]))
theorem pmk_und {a : Expr} {ta : TA} {p pos : Pos} {k : Nat} (T : Nl.UndT X.prog X.K X.mg C fI) (hr : Room (k + 1) X.A) (ha : PA X [a] ta) (hg : Gl X "Undecided" := by rfl)
    (he : starEach (a :: []) X.env = (false, eval a X.env) :: starEach [] X.env := by rfl) (hpl : (backTo pos (starEach [] X.env)).any (·.1) = false := by rfl) :
    PMk X (.Call (.Name "Undecided" p) [a] [] pos) (tMkUnd C ta) := by
  intro pins s σ H Q I h
  refine wpAny_Call_Name_kw (ld_glob I hg T.gC ?_)
  refine PySem.W.callWith_K (h₀ := X.base) I.ok.mod.kin T.kC (thn (ha.run pos pins s σ H _ I h) fun us s1 hh => ?_) he hpl
  obtain ⟨vs, H1, I1, r1, v, ev, q1⟩ := hh
  subst ev
  refine ⟨I1.kIn, ?_⟩
  cases r1 with
  | cons rv rn =>
    rename_i v' us'
    cases rn
    show wpAny _ _ (call (.ref C) [v']) _ _ _
    have hlim := I1.nolimit
    obtain ⟨mb, hb, hbx⟩ := I1.ok.mod.blt
    have hbs : mb "super" = some (.type "super") := (hbx _ (by decide)).trans (by rfl)
    have hgl := I1.ok.mod.glob.keeps I1.bk
    have hbl := hb.keeps I1.bk
    obtain ⟨hp, g, dr, tk, os⟩ := s1
    refine wpAny_call (Nl.und_made T I1.kIn hlim hgl hbl hbs (by have := hr.dp; omega) fun h' tk' e d M => ?_)
    show MkP X pins σ Q (.ref e) ⟨h', g, dr, tk', os⟩
    obtain ⟨oe, fv, hoe, hc, hd, hdat, h1⟩ := M.obj
    have hns := M.ns
    obtain ⟨G', g1, g2⟩ := restrict h' fun b => decide (b ≠ e)
    have gk : ∀ b, b ≠ e → G'.get? b = h'.get? b := fun b hb => g1 b (decide_eq_true hb)
    have ge : G'.get? e = none := g2 e (by simp)
    have old : ∀ b o, hp.get? b = some o → G'.get? b = some o := fun b o q => (gk b (Nat.ne_of_lt (Nat.lt_of_lt_of_le (Heap.lt_size q) M.new))).trans (M.keep b o q)
    have ob : ObjOk X.prog X.w (upd H1 d (.xd [(("horizon" : Str), v)])) G' d (.xd [(("horizon" : Str), v)]) :=
      ⟨_, hns.at (fun o q => (gk d M.dne).trans q), fun f => relO_und rv f⟩
    have J : Inv X pins σ (upd H1 d (.xd [(("horizon" : Str), v)])) ⟨G', g, dr, tk', os⟩ := I1.laid (t' := tk') old M.dbig ob
    refine ⟨e, oe, fv, ⟨G', g, dr, tk', os⟩, _, .ref C, some d, rfl, J, fun b o q => ?_, ge, hoe, ⟨hc, hd⟩, hdat, h1, ?_, rfl, I1.bare, raises_own T.exC T.tyC, q1 d (I1.hok.fresh M.dbig)⟩
    · by_cases hb : b = e
      · have q' : G'.get? b = some o := q
        rw [hb, ge] at q'; cases q'
      · exact (gk b hb).symm.trans q
    · rw [upd_ne (Ne.symm M.dne)]
      exact I1.hok.fresh M.new
/-- raise Undecided(e) -/
def tRaiseUnd (C : Addr) (W : WX) (ta : TA) : TS := fun _ σ H => tMkUnd C ta σ H fun cls d H' => W cls d σ H'
theorem ps_raiseUnd {a : Expr} {ta : TA} {W : WX} {p pos pos2 : Pos} {k : Nat} (hc : X.calm = true) (T : Nl.UndT X.prog X.K X.mg C fI) (hr : Room (k + 1) X.A) (tk : Takes X W) (ha : PA X [a] ta) (hg : Gl X "Undecided" := by rfl)
    (he : starEach (a :: []) X.env = (false, eval a X.env) :: starEach [] X.env := by rfl) (hpl : (backTo pos (starEach [] X.env)).any (·.1) = false := by rfl) :
    PS X (.Raise (some (.Call (.Name "Undecided" p) [a] [] pos)) none pos2) (tRaiseUnd C W ta) := ps_raise hc tk (pmk_und T hr ha hg he hpl)
/-- e.horizon, e the exception that the suite holds (at a; its class cls, its dict d) -/
def tHorUnd (C : Addr) (a : Addr) (cls : Value) (d : Option Addr) (te : TE) : TE := fun σ H Q => te σ H fun x H1 => x = .ref a ∧ cls = .ref C ∧ ∃ (dd : Addr) (v : V), d = some dd ∧ H1 dd = some (.xd [(("horizon" : Str), v)]) ∧ Q v H1
theorem pe_horUnd {a : Addr} {oe : Obj} {cls : Value} {d : Option Addr} {pn : List (Addr × Obj)} {e : Expr} {te : TE} {pos : Pos} (T : Nl.UndT X.prog X.K X.mg C fI) (hz : Zc cls d oe) (hf : ∃ vs, oe.data = .fields vs) (he : PE (X.suite a ((a, oe) :: pn)) e te)
    (hb : attributeBase e "horizon" X.env (eval e X.env) = eval e X.env := by rfl) :
    PE (X.suite a ((a, oe) :: pn)) (.Attribute e "horizon" pos) (tHorUnd C a cls d te) := by
  refine ⟨fun pins s σ H Q I h => ?_⟩
  refine attr_of hb (thn (he.run pins s σ H _ I h) fun u s1 hh => ?_)
  obtain ⟨x, H1, I1, rx, ex, ec, dd, v, ed, ea, q⟩ := hh
  subst ex
  obtain rfl : u = Value.ref a := rx
  subst ec
  subst ed
  obtain ⟨ha, _⟩ := I1.pin (a, oe) (List.mem_append_left _ List.mem_cons_self)
  obtain ⟨vs, hd⟩ := hf
  have hx : ObjOk X.prog X.w H1 s1.heap dd (.xd [(("horizon" : Str), v)]) := I1.hok dd _ ea
  obtain ⟨mA, hns, hr⟩ := hx
  obtain ⟨od, ho, hl⟩ := lookIn_ns hns
  have l : List.lookup ("horizon" : Str) [(("horizon" : Str), v)] = some v := by simp [List.lookup]
  obtain ⟨u, hu, ru⟩ := RelO.some_of (v := v) (o := mA "horizon") (by rw [← l]; exact hr "horizon")
  have J : PySem.W.InstAt s1.heap a oe C (some od) := ⟨ha, hz.1, by unfold PySem.W.notCls; rw [hd] <;> rfl, by rw [hz.2]; exact ho⟩
  exact HandSPX.exc_get I1.kIn J T.ga T.gg T.exC (PySem.W.findObj_own T.hdC T.noN rfl (by rw [hl, hu])) (handed_of ru) ⟨v, H1, I1.tok _, ru, q⟩
end
end L2
set_option maxHeartbeats 4000000
namespace Nl
open PySem PySem.Spec PyProof.Rows L2
open Classical in
noncomputable def trM (ts : List Tk) (tbl : List Int) (h : Nat) : Str := if Ov ts tbl h then "fails" else if dcM ts tbl h = true then "holds" else "undecided"
theorem tr_fails {ts : List Tk} {tbl : List Int} {h : Nat} (o : Ov ts tbl h) : trM ts tbl h = "fails" := if_pos o
theorem tr_holds {ts : List Tk} {tbl : List Int} {h : Nat} (o : ¬ Ov ts tbl h) (d : dcM ts tbl h = true) : trM ts tbl h = "holds" := by
  unfold trM
  rw [if_neg o, if_pos d]
theorem tr_und {ts : List Tk} {tbl : List Int} {h : Nat} (o : ¬ Ov ts tbl h) (d : dcM ts tbl h = false) : trM ts tbl h = "undecided" := by
  unfold trM
  rw [if_neg o, if_neg (by rw [d]; decide)]
section
variable {P : Program} {w : World} {K : PySem.W.Frag} {mg : Str → Option Value} {base : Heap} {ad : Str → Addr} {fd : Str → FuncData}
abbrev UT (P : Program) (K : PySem.W.Frag) (mg : Str → Option Value) (ad : Str → Addr) : Prop := UndT P K mg (ad "Undecided") (ad "Undecided.__init__")
/-- what an Undecided brings -/
def UndE (ad : Str → Addr) (H : Hp) (hor : Nat) (E : XK) : Prop := ∀ d H', H d = none → Same H H' → H' d = some (.xd [(("horizon" : Str), .int (hor : Nat))]) → E (.ref (ad "Undecided")) (some d) H'
/-! ### first_miss -/
theorem scFm : FnScope ["system", "horizon", "found", "end", "start", "releases", "task"] ["system", "horizon"] (defScope sFirstMiss) := ⟨rfl, rfl, rfl, by decide +kernel, rfl, by decide +kernel, by decide +kernel⟩
def spFm (ad : Str → Addr) : Sp := fun vs H Q E => ∃ (a : Addr) (ts : List Tk) (tbl : List Int) (hor : Nat), vs = [.ref a, .int (hor : Nat)] ∧ SyAt ad H a ts tbl ∧ (∀ t ∈ ts, WfT t) ∧ ts.length ≤ 4 ∧ WfB tbl ∧ hor ≤ 1000 ∧
  (Ov ts tbl hor → ∀ H' p, Same H H' → Q (.ref p) H') ∧ (¬ Ov ts tbl hor → dcM ts tbl hor = true → ∀ H', Same H H' → Q .non H') ∧ (¬ Ov ts tbl hor → dcM ts tbl hor = false → UndE ad H hor E)
theorem T_fm (T : Tx K mg ad fd) : KBn K (fd "first_miss") ["system", "horizon"] 1 ["horizon"] (fun us ws => us ++ ws) (fun vs zs => vs ++ zs) := kbn_of T.firstMiss.fn 1 fun _ _ _ _ _ _ us ws h1 h2 => match us, ws, h1, h2 with | [_], [_], _, _ => rfl
theorem ok_fm (T : Tx K mg ad fd) (U : UT P K mg ad) : FnOk P w K mg base (L2.CX P w) 13 (ad "first_miss") (fd "first_miss") ["system", "horizon"] (spFm ad) := by
  refine T.firstMiss.fn.okX scFm (fun vs H Q E h => ?_) (fun cdv A outer s H vs Q E hr h => ?_)
  · obtain ⟨a, ts, tbl, hor, rfl, _⟩ := h
    rfl
  · obtain ⟨a, ts, tbl, hor, rfl, hs, wf, hl, wb, hh, q1, q2, q3⟩ := h
    refine ⟨_, pss_cons (ps_set (i := 2) scFm.nd rfl (.inl rfl) (pe_callN (ok_fo T) (hr.mono (by decide)) (by rfl) T.firstOverfull.gl T.firstOverfull.fn.kp (T_fo T) pass0 (pa_cons (pv 0) pa_nil) (pk_cons (pv 1) pk_nil)))
      (pss_cons (ps_if (pt_cmpR op_notN (pv 2) pe_non (nomark _))
        (pss_cons (ps_asg (pv 2) (pg_tup rfl (pgs_cons (pg_name (i := 3) scFm.nd rfl (.inr rfl)) (pgs_cons (pg_name (i := 4) scFm.nd rfl (.inr rfl)) pgs_nil))))
        (pss_cons (ps_setLc (i := 5) (own := [("task", 6)]) (g := gName 6) (tt := tYes) rfl scFm.nd rfl rfl (sw_true rfl rfl rfl (by decide +kernel)) (pi_tup (pe_fld (pv 0) rfl))
          (blkOk_by (own := [("task", 6)]) (N := ["system", "horizon", "found", "end", "start", "releases", "task"]) (sc := defScope sFirstMiss) (by decide +kernel)) (fun _ _ _ _ _ => pg_name (i := 6) scFm.nd rfl (Or.inl rfl)) (fun _ _ _ _ _ => pts_nil)
          (fun _ _ _ _ _ => pe_call (ok_shift T) (hr.mono (by decide)) (by rfl) T.shift.gl T.shift.fn.kp (T_shift T) .nil pass0 (pa_cons (pe_call (ok_hv T) (hr.mono (by decide)) (by rfl) T.heaviest.gl T.heaviest.fn.kp (T_hv T) .nil pass0 (pa_cons (pv 6) (pa_cons (pe_op op_sub (pv 3) (pv 4)) pa_nil))) (pa_cons (pv 4) pa_nil))))
        (pss_one (ps_ret (pe_make T.missInit.mkr (ok_mi T) (hr.mono (by decide)) (by rfl) T.missInit.gl (T_mi T) .nil pass0 (pa_cons (pv 3) (pa_cons (pv 4) (pa_cons (pv 5) pa_nil)))))))) pss_nil)
      (pss_cons (ps_if (pt_val (pe_callN (ok_id T) hr (by rfl) T.isDecided.gl T.isDecided.fn.kp (T_id T) pass0 (pa_cons (pv 0) pa_nil) (pk_cons (pv 1) pk_nil))) (pss_one (ps_ret pe_non)) pss_nil)
      (pss_one (ps_raiseUnd rfl U hr (takes_of rfl rfl rfl rfl) (pa_cons (pv 1) pa_nil))))), ?_⟩
    have hb1 := wb.ne
    have hb2 := wb.len
    obtain ⟨dx, ta, tb, tas, O⟩ := id hs
    have hta : (tas.map V.ref).length = ts.length := by rw [List.length_map, O.len]
    refine ⟨_, rfl, _, rfl, rfl, rfl, a, ts, tbl, hor, rfl, hs, wf, hh, by omega, hb1, by omega, fun hno H1 s1 => ?_, fun hov e st H1 p he hst s1 hpn hp => ?_⟩
    · refine ⟨_, rfl, rfl, _, rfl, ite2 (fun c => absurd c (by decide)) (fun _ => ?_)⟩
      refine ⟨_, rfl, _, rfl, rfl, rfl, a, ts, tbl, hor, rfl, hs.same s1, wf, hl, wb, hh, fun H2 s2 => ⟨_, rfl, ite2 (fun c => ?_) (fun c => ?_)⟩⟩
      · exact q2 hno c H2 (s1.trans s2)
      · have c' : dcM ts tbl hor = false := by
          cases e : dcM ts tbl hor with
          | true => exact absurd e c
          | false => rfl
        have s12 := s1.trans s2
        exact ⟨_, rfl, _, rfl, fun d hd => q3 hno c' d _ (s12.free hd) (s12.trans (Same.up hd)) upd_same⟩
    · refine ⟨_, rfl, rfl, _, rfl, ite2 (fun _ => ?_) (fun c => absurd rfl c)⟩
      refine ⟨_, rfl, p, _, rfl, SqT.of hp, rfl, _, _, rfl, _, _, rfl, rfl, ?_⟩
      have O1 := O.same s1
      have ees : ((e : Nat) : Int) - ((st : Nat) : Int) = ((e - st : Nat) : Int) := by omega
      refine ⟨_, rfl, a, _, dx, _, _, rfl, O1.ob, T.systemInit.cl, T.nSystem_tasks, rfl, ta, rfl, ⟨_, SqT.of O1.to⟩, fun D hD => lc_same (walk_tup (a := ta) (xs := tas.map V.ref)) (fun i v H' => ∃ p ys, v = .ref p ∧ H' p = some (.lst ys) ∧ p ≠ D)
        (fun i v H H' ⟨p, ys, h1, h2, h3⟩ k => ⟨p, ys, h1, k _ _ h3 h2, h3⟩) (by rw [hta]; omega) hD (fun H' s' => SqT.of (s' _ _ O1.to)) ?_ ?_⟩
      · rintro i v H2 H3 acc Kc hi s2 hD2 ⟨rfl, ev⟩ hc
        obtain ⟨pt, t, rfl, ht, htk⟩ := (O1.same s2).at ev
        refine ⟨rfl, _, rfl, _, rfl, _, rfl, _, _, rfl, rfl, pt, t, e - st, by rw [← ees]; rfl, htk, wf t (List.mem_of_getElem? ht), by omega, fun H4 ph xs s4 hph hxs hxl => ?_⟩
        refine ⟨_, rfl, ph, xs, _, rfl, hxs, hxl, fun H5 p5 ys s5 hp5 hpo5 hyl => ?_⟩
        exact hc _ _ (s4.trans s5) ⟨p5, ys, rfl, hpo5, (ne_of_none (s4 _ _ hD2) hp5).symm⟩
      · intro H2 ys s2 h1 h2 h3
        rw [hta] at h2
        obtain ⟨as, rfl, hal, ha⟩ := refs_of h2 (fun i p => ∃ ys, H2 p = some (.lst ys)) fun i y hy => by
          obtain ⟨p, ys, e1, e2, _⟩ := h3 i y hy
          exact ⟨p, e1, ys, e2⟩
        refine ⟨_, rfl, _, rfl, _, rfl, fun x dx2 hx hdx hne => ?_⟩
        have su : Same H2 (upd (upd H2 dx2 (.own x)) x (.ins (ad "Miss") dx2 [])) := Same.up2 (Same.up hdx) hx
        refine ⟨x, dx2, D, e, st, as, rfl, upd_same, su _ _ h1, by omega, fun p hp => ?_, fun H3 s3 => ⟨rfl, ?_⟩⟩
        · obtain ⟨i, hi, rfl⟩ := List.getElem_of_mem hp
          obtain ⟨ys, hy⟩ := ha i _ (List.getElem?_eq_getElem hi)
          exact ⟨ys, su _ _ hy⟩
        · exact q1 hov _ _ ((s1.trans s2).trans fun b o hb => s3 b o (ne_of_none hb hx) (su b o hb))
/-! ### trial -/
theorem scTr : FnScope ["system", "horizon", "miss"] ["system", "horizon"] (defScope sTrial) := ⟨rfl, rfl, rfl, by decide +kernel, rfl, by decide +kernel, by decide +kernel⟩
def spTr (ad : Str → Addr) : Sp := fun vs H Q _ => ∃ (a : Addr) (ts : List Tk) (tbl : List Int) (hor : Nat), vs = [.ref a, .int (hor : Nat)] ∧ SyAt ad H a ts tbl ∧ (∀ t ∈ ts, WfT t) ∧ ts.length ≤ 4 ∧ WfB tbl ∧ hor ≤ 1000 ∧ ∀ H', Same H H' → Q (.str (trM ts tbl hor)) H'
theorem T_tr (T : Tx K mg ad fd) : KBn K (fd "trial") ["system", "horizon"] 1 ["horizon"] (fun us ws => us ++ ws) (fun vs zs => vs ++ zs) := kbn_of T.trial.fn 1 fun _ _ _ _ _ _ us ws h1 h2 => match us, ws, h1, h2 with | [_], [_], _, _ => rfl
theorem takes_no {X : Cx} : Takes X (fun _ _ _ _ => False) := fun u s' x => by
  obtain ⟨_, _, _, _, _, _, _, _, _, _, _, _, _, _, _, _, w⟩ := x
  exact w.elim
theorem ok_tr (T : Tx K mg ad fd) (U : UT P K mg ad) : FnOk P w K mg base CX0 14 (ad "trial") (fd "trial") ["system", "horizon"] (spTr ad) := by
  refine T.trial.fn.ok scTr (fun vs H Q E h => ?_) (fun cdv A outer s H vs Q E hr h => ?_)
  · obtain ⟨a, ts, tbl, hor, rfl, _⟩ := h
    rfl
  · obtain ⟨a, ts, tbl, hor, rfl, hs, wf, hl, wb, hh, q⟩ := h
    refine ⟨_, pss_cons (ps_try_only rfl rfl ⟨by rfl, by decide, .inl U.gC⟩ takes_no
        (fun W pn xe tk po => pss_one (ps_set (i := 2) scTr.nd rfl (.inl rfl) (pe_callNS (ok_fm T U) hr (by rfl) T.firstMiss.gl T.firstMiss.fn.kp (T_fm T) (fun σ => passAt tk σ) (pa_cons (pv 0) pa_nil) (pk_cons (pv 1) pk_nil))))
        (fun a oe cls d pn hz hf => pss_one (ps_ret pe_str)))
      (pss_cons (ps_if (pt_cmpR op_isN (pv 2) pe_non (nomark _)) (pss_one (ps_ret pe_str)) pss_nil)
      (pss_one (ps_ret pe_str))), ?_⟩
    refine ⟨_, rfl, _, rfl, rfl, rfl, a, ts, tbl, hor, rfl, hs, wf, hl, wb, hh, fun ho H1 p s1 => ?_, fun ho hd H1 s1 => ?_, fun ho hd => ?_⟩
    · refine ⟨_, rfl, rfl, _, rfl, ite2 (fun c => absurd (of_decide_eq_true c) (fun z => nomatch z)) (fun _ => ?_)⟩
      rw [tr_fails ho] at q
      exact q H1 s1
    · refine ⟨_, rfl, rfl, _, rfl, ite2 (fun _ => ?_) (fun c => absurd (by decide) c)⟩
      rw [tr_holds ho hd] at q
      exact q H1 s1
    · intro d H1 hd1 s1 hdo
      rw [tr_und ho hd] at q
      exact ⟨true, U.te, fun _ a' ha' => q H1 s1, fun h => by cases h⟩
end
end Nl
set_option maxHeartbeats 4000000
namespace Nl
open PySem PySem.Spec PyProof.Rows L2
def tk0 : Tk := ⟨Str.empty, [], []⟩
def subT (ts : List Tk) (ns : List Nat) : List Tk := ns.map fun n => ts.getD n tk0
def Dis (ts : List Tk) : Prop := ∀ (i j : Nat) (t u : Tk), i < j → ts[i]? = some t → ts[j]? = some u → t.name ≠ u.name
theorem inV_str {x : Str} {l : List Str} : inV (.str x) (l.map V.str) = decide (x ∈ l) := by
  unfold inV
  rw [List.any_map]
  induction l with
  | nil => simp
  | cons y l ih =>
    rw [List.any_cons, ih]
    by_cases e : y = x
    · subst e
      simp [eqV]
    · have : ¬ x = y := fun z => e z.symm
      simp [eqV, this, e]
theorem flat_strs (l : List Str) : (l.map V.str).all flatV = true := List.all_eq_true.mpr fun v hv => by
  obtain ⟨x, _, rfl⟩ := List.mem_map.mp hv
  rfl
/-- a table, as a list or as a tuple -/
def TbAt (H : Hp) (b : Addr) (tbl : List Int) : Prop := H b = some (.lst (tbl.map V.int)) ∨ H b = some (.tup (tbl.map V.int))
structure TbOk (tbl : List Int) : Prop where
  ne : 1 ≤ tbl.length
  len : tbl.length ≤ 1001
  cap : ∀ c ∈ tbl, 0 ≤ c ∧ c ≤ 1000000
theorem WfB.tb {tbl : List Int} (h : WfB tbl) : TbOk tbl := ⟨h.ne, by have := h.len; omega, fun c hc => by have := h.cap c hc; omega⟩
theorem all_true_of {bs : List Bool} (h : ∀ b ∈ bs, b = true) : bs.all id = true := List.all_eq_true.mpr h
section
variable {P : Program} {w : World} {K : PySem.W.Frag} {mg : Str → Option Value} {base : Heap} {ad : Str → Addr} {fd : Str → FuncData}
/-! ### is_table -/
theorem scIt : FnScope ["table", "capacity"] ["table"] (defScope sIsTable) := ⟨rfl, rfl, rfl, by decide +kernel, rfl, by decide +kernel, by decide +kernel⟩
def spIt : Sp := fun vs H Q _ => ∃ (b : Addr) (tbl : List Int), vs = [.ref b] ∧ TbAt H b tbl ∧ TbOk tbl ∧ ∀ H', Same H H' → Q (.bl true) H'
theorem T_it (T : Tx K mg ad fd) : Binds K (fd "is_table") ["table"] [] := T.isTable.fn.binds fun _ _ _ _ _ _ us hl => match us, hl with | [_], _ => rfl
theorem ok_it (T : Tx K mg ad fd) : FnOk P w K mg base CX0 1 (ad "is_table") (fd "is_table") ["table"] spIt := by
  obtain ⟨_, gS⟩ := T.c_MOST_SLOTS
  obtain ⟨_, gC⟩ := T.c_MOST_CAPACITY
  refine T.isTable.fn.ok scIt (fun vs H Q E h => ?_) (fun cdv A outer s H vs Q E hr h => ?_)
  · obtain ⟨b, tbl, rfl, _⟩ := h
    rfl
  · obtain ⟨b, tbl, rfl, hb, ok, q⟩ := h
    have hn := ok.ne
    have hl := ok.len
    rcases hb with hb | hb
    · refine ⟨_, pss_cons (ps_if (pt_not (pt_chain op_le op_le pe_int (pe_callB call_len_seq (by rfl) T.b_len PySem.boot_len (pa_cons (pv 0) pa_nil)) (pe_glob (v := .int 1001) (by rfl) gS ⟨_, rfl⟩))) (pss_one (ps_ret pe_bl)) pss_nil)
        (pss_one (ps_ret (pe_callB (cr_all rfl) (by rfl) T.b_all boot_all (pa_cons (pe_lc (own := [("capacity", 1)]) (g := gName 1) (tt := tYes) rfl scIt.nd (pi_list (pv 0)) (blkOk_by (own := [("capacity", 1)]) (N := ["table", "capacity"]) (sc := defScope sIsTable) (by decide +kernel)) (fun _ _ _ _ _ => pg_name (i := 1) scIt.nd rfl (Or.inl rfl)) (fun _ _ _ _ _ => pts_nil)
          (fun _ _ _ _ _ => pe_chain op_le op_le pe_int (pv 1) (pe_glob (v := .int 1000000) (by rfl) gC ⟨_, rfl⟩))) pa_nil)))), ?_⟩
      refine ⟨_, rfl, b, _, rfl, .inl (SqL.of hb), _, _, rfl, rfl, _, rfl, ?_⟩
      rw [List.length_map, if_pos (decide_eq_true (by omega))]
      refine ⟨_, _, rfl, rfl, _, rfl, ?_⟩
      rw [decide_eq_true (by omega : ((tbl.length : Nat) : Int) ≤ 1001)]
      refine ite2 (fun c => absurd c (by decide)) (fun _ => ?_)
      refine ⟨_, rfl, b, rfl, ⟨_, SqL.of hb⟩, fun D hD => lc_same (walk_list (a := b) (xs := tbl.map V.int)) (fun _ v _ => v = .bl true) (fun _ _ _ _ h _ => h) (by rw [List.length_map]; omega) hD (fun H' s' => SqL.of (s' _ _ hb)) ?_ ?_⟩
      · rintro i v H2 H3 acc Kc hi s2 hD2 ⟨rfl, ev⟩ hc
        rw [List.getElem?_map] at ev
        cases ec : tbl[i]? with
        | none => rw [ec] at ev; cases ev
        | some c =>
          rw [ec] at ev
          cases ev
          have hcc := ok.cap c (List.mem_of_getElem? ec)
          refine ⟨rfl, _, rfl, _, _, rfl, rfl, _, rfl, ?_⟩
          rw [if_pos (decide_eq_true hcc.1)]
          exact ⟨_, _, rfl, rfl, hc _ _ (Same.refl _) (congrArg V.bl (decide_eq_true hcc.2))⟩
      · intro H1 ys s1 h1 h2 h3
        have e : ys = (List.replicate ys.length true).map V.bl := by
          apply List.ext_getElem?
          intro i
          rw [List.getElem?_map, List.getElem?_replicate]
          by_cases hi : i < ys.length
          · rw [List.getElem?_eq_getElem hi, if_pos hi, h3 i _ (List.getElem?_eq_getElem hi)]; rfl
          · rw [List.getElem?_eq_none (by omega), if_neg hi]; rfl
        rw [e] at h1
        refine ⟨D, _, rfl, SqL.of h1, ?_⟩
        rw [all_true_of (fun b hb => (List.mem_replicate.mp hb).2)]
        exact q H1 s1
    · refine ⟨_, pss_cons (ps_if (pt_not (pt_chain op_le op_le pe_int (pe_callB call_len_seq (by rfl) T.b_len PySem.boot_len (pa_cons (pv 0) pa_nil)) (pe_glob (v := .int 1001) (by rfl) gS ⟨_, rfl⟩))) (pss_one (ps_ret pe_bl)) pss_nil)
        (pss_one (ps_ret (pe_callB (cr_all rfl) (by rfl) T.b_all boot_all (pa_cons (pe_lc (own := [("capacity", 1)]) (g := gName 1) (tt := tYes) rfl scIt.nd (pi_tup (pv 0)) (blkOk_by (own := [("capacity", 1)]) (N := ["table", "capacity"]) (sc := defScope sIsTable) (by decide +kernel)) (fun _ _ _ _ _ => pg_name (i := 1) scIt.nd rfl (Or.inl rfl)) (fun _ _ _ _ _ => pts_nil)
          (fun _ _ _ _ _ => pe_chain op_le op_le pe_int (pv 1) (pe_glob (v := .int 1000000) (by rfl) gC ⟨_, rfl⟩))) pa_nil)))), ?_⟩
      refine ⟨_, rfl, b, _, rfl, .inr (SqT.of hb), _, _, rfl, rfl, _, rfl, ?_⟩
      rw [List.length_map, if_pos (decide_eq_true (by omega))]
      refine ⟨_, _, rfl, rfl, _, rfl, ?_⟩
      rw [decide_eq_true (by omega : ((tbl.length : Nat) : Int) ≤ 1001)]
      refine ite2 (fun c => absurd c (by decide)) (fun _ => ?_)
      refine ⟨_, rfl, b, rfl, ⟨_, SqT.of hb⟩, fun D hD => lc_same (walk_tup (a := b) (xs := tbl.map V.int)) (fun _ v _ => v = .bl true) (fun _ _ _ _ h _ => h) (by rw [List.length_map]; omega) hD (fun H' s' => SqT.of (s' _ _ hb)) ?_ ?_⟩
      · rintro i v H2 H3 acc Kc hi s2 hD2 ⟨rfl, ev⟩ hc
        rw [List.getElem?_map] at ev
        cases ec : tbl[i]? with
        | none => rw [ec] at ev; cases ev
        | some c =>
          rw [ec] at ev
          cases ev
          have hcc := ok.cap c (List.mem_of_getElem? ec)
          refine ⟨rfl, _, rfl, _, _, rfl, rfl, _, rfl, ?_⟩
          rw [if_pos (decide_eq_true hcc.1)]
          exact ⟨_, _, rfl, rfl, hc _ _ (Same.refl _) (congrArg V.bl (decide_eq_true hcc.2))⟩
      · intro H1 ys s1 h1 h2 h3
        have e : ys = (List.replicate ys.length true).map V.bl := by
          apply List.ext_getElem?
          intro i
          rw [List.getElem?_map, List.getElem?_replicate]
          by_cases hi : i < ys.length
          · rw [List.getElem?_eq_getElem hi, if_pos hi, h3 i _ (List.getElem?_eq_getElem hi)]; rfl
          · rw [List.getElem?_eq_none (by omega), if_neg hi]; rfl
        rw [e] at h1
        refine ⟨D, _, rfl, SqL.of h1, ?_⟩
        rw [all_true_of (fun b hb => (List.mem_replicate.mp hb).2)]
        exact q H1 s1
/-! ### System.__init__ -/
theorem scSi : FnScope ["self", "tasks", "table", "names", "task"] ["self", "tasks", "table"] (defScope sSystemInit) := ⟨rfl, rfl, rfl, by decide +kernel, rfl, by decide +kernel, by decide +kernel⟩
def TksAt (ad : Str → Addr) (H : Hp) (tas : List Addr) (ts : List Tk) : Prop := tas.length = ts.length ∧ ∀ (i : Nat) (t : Tk), ts[i]? = some t → ∃ p, tas[i]? = some p ∧ TkAt ad H p t
theorem TksAt.same {ad : Str → Addr} {H H' : Hp} {tas : List Addr} {ts : List Tk} (h : TksAt ad H tas ts) (s : Same H H') : TksAt ad H' tas ts := ⟨h.1, fun i t e => let ⟨p, h1, h2⟩ := h.2 i t e; ⟨p, h1, h2.same s⟩⟩
theorem TkO.ins {ad : Str → Addr} {H : Hp} {a dx ka wa : Addr} {kas was : List Addr} {t : Tk} (h : TkO ad H a dx ka wa kas was t) {f : Addr} {C dy : Addr} {fs : List (Str × V)} (hf : H f = some (.ins C dy fs)) (hn : a ≠ f) {H' : Hp} (s : SameX f H H') : TkO ad H' a dx ka wa kas was t := by
  have k : ∀ b ys, H b = some (.tup ys) → H' b = some (.tup ys) := fun b ys e => s b _ (ne_of e hf (by simp)) e
  exact ⟨s _ _ hn h.ob, k _ _ h.ko, k _ _ h.wo, ⟨h.ks.1, fun i x e => let ⟨p, h1, h2⟩ := h.ks.2 i x e; ⟨p, h1, k _ _ h2⟩⟩, ⟨h.ws.1, fun i x e => let ⟨p, h1, h2⟩ := h.ws.2 i x e; ⟨p, h1, k _ _ h2⟩⟩⟩
def spSi (ad : Str → Addr) : Sp := fun vs H Q _ => ∃ (x dx tl b : Addr) (tas : List Addr) (ts : List Tk) (tbl : List Int), vs = [.ref x, .ref tl, .ref b] ∧ H x = some (.ins (ad "System") dx []) ∧ H tl = some (.lst (tas.map V.ref)) ∧ TksAt ad H tas ts ∧ (∀ p ∈ tas, p ≠ x) ∧ Dis ts ∧ ts.length ≤ 6 ∧ TbAt H b tbl ∧ TbOk tbl ∧
  ∀ H', SameX x H H' → SyAt ad H' x ts tbl → Q .non H'
theorem T_si (T : Tx K mg ad fd) : KBn K (fd "System.__init__") ["self", "tasks", "table"] 2 ["table"] (fun us ws => us ++ ws) (fun vs zs => vs ++ zs) := kbn_of T.systemInit.fn 2 fun _ _ _ _ _ _ us ws h1 h2 => match us, ws, h1, h2 with | [_, _], [_], _, _ => rfl
theorem ok_si (T : Tx K mg ad fd) : FnOk P w K mg base CX0 2 (ad "System.__init__") (fd "System.__init__") ["self", "tasks", "table"] (spSi ad) := by
  obtain ⟨_, gT⟩ := T.c_MOST_TASKS
  refine T.systemInit.fn.ok scSi (fun vs H Q E h => ?_) (fun cdv A outer s H vs Q E hr h => ?_)
  · obtain ⟨x, dx, tl, b, tas, ts, tbl, rfl, _⟩ := h
    rfl
  · obtain ⟨x, dx, tl, b, tas, ts, tbl, rfl, hx, htl, htk, hnx, dis, hl6, hb, ok, q⟩ := h
    refine ⟨_, pss_cons (ps_if (pt_not (pt_val (pe_call (ok_it T) hr (by rfl) T.isTable.gl T.isTable.fn.kp (T_it T) .nil pass0 (pa_cons (pv 2) pa_nil)))) (pss_one ps_never) pss_nil)
      (pss_cons (ps_set (i := 3) scSi.nd rfl (.inl rfl) (pe_lst pa_nil))
      (pss_cons (ps_for PassesOwn.never rfl (pi_list (pv 1)) (pg_name (i := 4) scSi.nd rfl (.inl rfl))
        (pss_cons (ps_if (pt_cmpR op_in_seq (pe_fld (pv 4) rfl) (pv 3) (by with_unfolding_all rfl)) (pss_one ps_never) pss_nil)
        (pss_one (ps_expr (pe_bm PySem.F.plainAttrs_list PySem.F.slot_list_append PySem.F.type_list_append mt_append (pv 3) (pa_cons (pe_fld (pv 4) rfl) pa_nil))))))
      (pss_cons (ps_if (pt_cmpR op_gt (pe_callB call_len_seq (by rfl) T.b_len PySem.boot_len (pa_cons (pv 3) pa_nil)) (pe_glob (v := .int 6) (by rfl) gT ⟨_, rfl⟩) (nomark _)) (pss_one ps_never) pss_nil)
      (pss_cons (ps_fld (pv 0) (pe_callTy call_tuple_of (by rfl) T.b_tuple boot_tuple (pa_cons (pv 1) pa_nil)) rfl)
      (pss_one (ps_fld (pv 0) (pe_callTy call_tuple_of (by rfl) T.b_tuple boot_tuple (pa_cons (pv 2) pa_nil)) rfl)))))), ?_⟩
    have hal : (tas.map V.ref).length = ts.length := by rw [List.length_map, htk.1]
    refine ⟨_, rfl, b, tbl, rfl, hb, ok, fun H1 s1 => ⟨_, rfl, ite2 (fun c => absurd c (by decide)) (fun _ => ?_)⟩⟩
    refine ⟨(by show 0 ≤ sizeLine; decide), fun nm hnm => ?_⟩
    have htl1 := s1 _ _ htl
    have s12 : Same H (upd H1 nm (.lst [])) := s1.trans (Same.up hnm)
    refine ⟨_, rfl, tl, rfl, ⟨_, SqL.of (s12 _ _ htl)⟩, for_it (walk_list (a := tl) (xs := tas.map V.ref)) (fun i σ H' => ∃ v4, Same H H' ∧ H' nm = some (.lst (((ts.take i).map fun t => t.name).map V.str)) ∧ σ = [some (.ref x), some (.ref tl), some (.ref b), some (.ref nm), v4])
      ⟨none, s12, upd_same, rfl⟩ (fun i σ H' _ ⟨_, s', _⟩ => SqL.of (s' _ _ htl)) ?_ ?_⟩
    · rintro i v σ H2 H3 hi ⟨v4, s2, hnmo, rfl⟩ ⟨rfl, ev⟩
      have hit : i < ts.length := by rw [hal] at hi; exact hi
      have et := List.getElem?_eq_getElem hit
      generalize ts[i] = t at et
      obtain ⟨p, hp, htp⟩ := htk.2 i t et
      rw [List.getElem?_map, hp] at ev
      cases ev
      obtain ⟨tdx, ka, wa, kas, was, O⟩ := id (htp.same s2)
      have hno : t.name ∉ (ts.take i).map fun t => t.name := fun hm => by
        obtain ⟨u, hu, eu⟩ := List.mem_map.mp hm
        obtain ⟨j, hj, ej⟩ := List.getElem_of_mem hu
        rw [List.length_take] at hj
        rw [List.getElem_take] at ej
        exact dis j i u t (by omega) (by rw [← ej]; exact List.getElem?_eq_getElem _) et eu
      refine ⟨_, rfl, p, _, tdx, _, _, rfl, O.ob, T.taskInit.cl, T.nTask_name, rfl, _, rfl, nm, _, rfl, .inl (SqL.of hnmo), rfl, flat_strs _, _, rfl, ?_⟩
      rw [if_neg (by decide : ¬ (false = true)), inV_str, decide_eq_false hno]
      refine ite2 (fun c => absurd c (by decide)) (fun _ => ?_)
      refine ⟨_, rfl, .inl ⟨rfl, _, SqL.of hnmo⟩, _, rfl, p, _, tdx, _, _, rfl, O.ob, T.taskInit.cl, T.nTask_name, rfl, nm, _, _, rfl, rfl, hnmo, small (by rw [List.length_map, List.length_map, List.length_take]; omega), ?_⟩
      refine ⟨some (.ref p), Same.up2 s2 (s1.free hnm), ?_, rfl⟩
      rw [upd_same, List.take_add_one, et]
      simp
    · rintro σ H2 ⟨v4, s2, hnmo, rfl⟩
      rw [hal, List.take_length] at hnmo
      refine ⟨_, rfl, nm, _, rfl, .inl (SqL.of hnmo), _, _, rfl, rfl, _, rfl, ite2 (fun c => ?_) (fun _ => ?_)⟩
      · have : (6 : Int) < (((ts.map fun t => t.name).map V.str).length : Nat) := of_decide_eq_true c
        rw [List.length_map, List.length_map] at this
        omega
      refine ⟨_, rfl, tl, _, rfl, .inl ⟨SqL.of (s2 _ _ htl), fun ta hta => ?_⟩⟩
      have s3 : Same H2 (upd H2 ta (.tup (tas.map V.ref))) := Same.up hta
      have s03 := s2.trans s3
      refine ⟨_, rfl, x, _, dx, _, rfl, s03 _ _ hx, T.systemInit.cl, T.nSystem_tasks, by decide, ?_⟩
      have sx : SameX x H (upd (upd H2 ta (.tup (tas.map V.ref))) x (.ins (ad "System") dx (putF "tasks" (.ref ta) []))) := (SameX.of s03).trans SameX.upd
      have nta : ta ≠ x := (ne_of_none (s2 _ _ hx) hta).symm
      have hta2 : (upd (upd H2 ta (.tup (tas.map V.ref))) x (.ins (ad "System") dx (putF "tasks" (.ref ta) []))) ta = some (.tup (tas.map V.ref)) := by rw [upd_ne nta, upd_same]
      have fin : ∀ (H5 : Hp) (tb : Addr), SameX x (upd (upd H2 ta (.tup (tas.map V.ref))) x (.ins (ad "System") dx (putF "tasks" (.ref ta) []))) H5 → tb ≠ x → H5 tb = some (.tup (tbl.map V.int)) → H5 x = some (.ins (ad "System") dx (putF "tasks" (.ref ta) [])) →
          Q .non (upd H5 x (.ins (ad "System") dx (putF "table" (.ref tb) (putF "tasks" (.ref ta) [])))) := fun H5 tb s5 ntb htb hx5 => by
        have sf : SameX x H (upd H5 x (.ins (ad "System") dx (putF "table" (.ref tb) (putF "tasks" (.ref ta) [])))) := (sx.trans s5).trans SameX.upd
        refine q _ sf ⟨dx, ta, tb, tas, ?_, ?_, ?_, htk.1, fun i t e => ?_⟩
        · rw [upd_same]; rfl
        · rw [upd_ne nta]; exact s5 _ _ nta hta2
        · rw [upd_ne ntb]; exact htb
        · obtain ⟨p, h1, d2, ka, wa, kas, was, O⟩ := htk.2 i t e
          exact ⟨p, h1, d2, ka, wa, kas, was, O.ins hx (hnx p (List.mem_of_getElem? h1)) sf⟩
      rcases hb with hb | hb
      · have nb : b ≠ x := ne_of hb hx (by simp)
        refine ⟨_, rfl, b, _, rfl, .inl ⟨SqL.of (sx _ _ nb hb), fun tb htb => ?_⟩⟩
        refine ⟨_, rfl, x, _, dx, _, rfl, Same.up (o := .tup (tbl.map V.int)) htb _ _ upd_same, T.systemInit.cl, T.nSystem_table, (by show 1 < 1000; decide), ?_⟩
        exact fin _ tb (SameX.of (Same.up htb)) (ne_of_none upd_same htb).symm upd_same (Same.up (o := .tup (tbl.map V.int)) htb _ _ upd_same)
      · have nb : b ≠ x := ne_of hb hx (by simp)
        refine ⟨_, rfl, b, _, rfl, .inr ⟨SqT.of (sx _ _ nb hb), ?_⟩⟩
        refine ⟨_, rfl, x, _, dx, _, rfl, upd_same, T.systemInit.cl, T.nSystem_table, (by show 1 < 1000; decide), ?_⟩
        exact fin _ b (SameX.of (Same.refl _)) nb (sx _ _ nb hb) upd_same
end
end Nl
set_option maxHeartbeats 4000000
namespace Nl
open PySem PySem.Spec PyProof.Rows L2
theorem natV_get {ns : List Nat} {i : Nat} {v : V} (e : (natV ns)[i]? = some v) : ∃ n, ns[i]? = some n ∧ v = .int (n : Nat) := by
  unfold natV at e
  rw [List.getElem?_map] at e
  cases en : ns[i]? with
  | none => rw [en] at e; cases e
  | some n => rw [en] at e; cases e; exact ⟨n, rfl, rfl⟩
theorem natV_len (ns : List Nat) : (natV ns).length = ns.length := List.length_map _
theorem subT_len (ts : List Tk) (ns : List Nat) : (subT ts ns).length = ns.length := List.length_map _
theorem subT_get {ts : List Tk} {ns : List Nat} (hn : ∀ n ∈ ns, n < ts.length) {i : Nat} {t : Tk} (e : (subT ts ns)[i]? = some t) : ∃ n, ns[i]? = some n ∧ ts[n]? = some t := by
  unfold subT at e
  rw [List.getElem?_map] at e
  cases en : ns[i]? with
  | none => rw [en] at e; cases e
  | some n =>
    rw [en] at e
    cases e
    have := hn n (List.mem_of_getElem? en)
    exact ⟨n, rfl, by show ts[n]? = some (ts.getD n tk0); rw [List.getD_eq_getElem?_getD, List.getElem?_eq_getElem this]; rfl⟩
theorem subT_wf {ts : List Tk} {ns : List Nat} (hn : ∀ n ∈ ns, n < ts.length) (wf : ∀ t ∈ ts, WfT t) : ∀ t ∈ subT ts ns, WfT t := fun t ht => by
  obtain ⟨i, hi, rfl⟩ := List.getElem_of_mem ht
  obtain ⟨n, _, h2⟩ := subT_get hn (List.getElem?_eq_getElem hi)
  exact wf _ (List.mem_of_getElem? h2)
section
variable {P : Program} {w : World} {K : PySem.W.Frag} {mg : Str → Option Value} {base : Heap} {ad : Str → Addr} {fd : Str → FuncData}
/-! ### System.only -/
theorem scOn : FnScope ["self", "numbers", "number"] ["self", "numbers"] (defScope sSystemOnly) := ⟨rfl, rfl, rfl, by decide +kernel, rfl, by decide +kernel, by decide +kernel⟩
def spOn (ad : Str → Addr) : Sp := fun vs H Q _ => ∃ (a p : Addr) (ts : List Tk) (tbl : List Int) (ns : List Nat), vs = [.ref a, .ref p] ∧ SyAt ad H a ts tbl ∧ H p = some (.lst (natV ns)) ∧ (∀ n ∈ ns, n < ts.length) ∧ ns.length ≤ 6 ∧ Dis (subT ts ns) ∧ TbOk tbl ∧
  ∀ H' x, Same H H' → SyAt ad H' x (subT ts ns) tbl → Q (.ref x) H'
theorem T_on (T : Tx K mg ad fd) : Binds K (fd "System.only") ["self", "numbers"] [] := T.systemOnly.fn.binds fun _ _ _ _ _ _ us hl => match us, hl with | [_, _], _ => rfl
theorem ok_on (T : Tx K mg ad fd) : FnOk P w K mg base CX0 4 (ad "System.only") (fd "System.only") ["self", "numbers"] (spOn ad) := by
  refine T.systemOnly.fn.ok scOn (fun vs H Q E h => ?_) (fun cdv A outer s H vs Q E hr h => ?_)
  · obtain ⟨a, p, ts, tbl, ns, rfl, _⟩ := h
    rfl
  · obtain ⟨a, p, ts, tbl, ns, rfl, hs, hp, hn, hl, dis, ok, q⟩ := h
    refine ⟨_, pss_cons (ps_for PassesOwn.never rfl (pi_list (pv 1)) (pg_name (i := 2) scOn.nd rfl (.inl rfl))
        (pss_one (ps_if (pt_not (pt_chain op_le op_lt pe_int (pv 2) (pe_callB call_len_seq (by rfl) T.b_len PySem.boot_len (pa_cons (pe_fld (pv 0) rfl) pa_nil)))) (pss_one ps_never) pss_nil)))
      (pss_one (ps_ret (pe_makeK T.systemInit.mkr (ok_si T) hr (by rfl) T.systemInit.gl (T_si T) pass0 (pa_cons (pe_lc (own := [("number", 2)]) (g := gName 2) (tt := tYes) rfl scOn.nd (pi_list (pv 1))
        (blkOk_by (own := [("number", 2)]) (N := ["self", "numbers", "number"]) (sc := defScope sSystemOnly) (by decide +kernel)) (fun _ _ _ _ _ => pg_name (i := 2) scOn.nd rfl (Or.inl rfl)) (fun _ _ _ _ _ => pts_nil)
        (fun _ _ _ _ _ => pe_ix (ixT K) (pe_fldK K (pv 0) rfl) (pv 2) (fun _ _ => rfl))) pa_nil) (pk_cons (pe_fld (pv 0) rfl) pk_nil)))), ?_⟩
    obtain ⟨dx, ta, tb, tas, O⟩ := id hs
    have hta : (tas.map V.ref).length = ts.length := by rw [List.length_map, O.len]
    refine ⟨_, rfl, p, rfl, ⟨_, SqL.of hp⟩, for_it (walk_list (a := p) (xs := natV ns)) (fun i σ H' => ∃ v2, H' = H ∧ σ = [some (.ref a), some (.ref p), v2]) ⟨none, rfl, rfl⟩ (fun i σ H' _ ⟨_, e, _⟩ => by rw [e]; exact SqL.of hp) ?_ ?_⟩
    · rintro i v σ H1 H2 hi ⟨v2, rfl, rfl⟩ ⟨rfl, ev⟩
      obtain ⟨n, en, rfl⟩ := natV_get ev
      have hlt := hn n (List.mem_of_getElem? en)
      refine ⟨_, rfl, _, _, rfl, rfl, _, rfl, ?_⟩
      rw [if_pos (decide_eq_true (by omega))]
      refine ⟨_, rfl, a, _, dx, _, _, rfl, O.ob, T.systemInit.cl, T.nSystem_tasks, rfl, ta, _, rfl, .inr (SqT.of O.to), _, _, rfl, rfl, _, rfl, ?_⟩
      rw [hta, decide_eq_true (by omega : ((n : Nat) : Int) < ((ts.length : Nat) : Int))]
      exact ite2 (fun c => absurd c (by decide)) (fun _ => ⟨_, rfl, rfl⟩)
    · rintro σ H1 ⟨v2, rfl, rfl⟩
      refine ⟨_, rfl, p, rfl, ⟨_, SqL.of hp⟩, fun D hD => lc_same (walk_list (a := p) (xs := natV ns)) (fun i v H' => ∃ n q, ns[i]? = some n ∧ tas[n]? = some q ∧ v = .ref q) (fun _ _ _ _ h _ => h) (by rw [natV_len]; omega) hD (fun H' s' => SqL.of (s' _ _ hp)) ?_ ?_⟩
      · rintro i v H2 H3 acc Kc hi s2 hD2 ⟨rfl, ev⟩ hc
        obtain ⟨n, en, rfl⟩ := natV_get ev
        have hlt := hn n (List.mem_of_getElem? en)
        have O2 := O.same s2
        have hlt2 : n < tas.length := by rw [O.len]; exact hlt
        refine ⟨rfl, _, rfl, a, _, dx, _, _, rfl, O2.ob, T.systemInit.cl, T.nSystem_tasks, rfl, _, rfl, _, _, _, .ref tas[n], rfl, rfl, SqT.of O2.to, atI_nat (by rw [List.getElem?_map, List.getElem?_eq_getElem hlt2]; rfl), ?_⟩
        exact hc _ _ (Same.refl _) ⟨n, _, en, List.getElem?_eq_getElem hlt2, rfl⟩
      · intro H2 ys s2 h1 h2 h3
        rw [natV_len] at h2
        obtain ⟨as, rfl, hal, ha⟩ := refs_of h2 (fun i p => ∃ n, ns[i]? = some n ∧ tas[n]? = some p) fun i y hy => by
          obtain ⟨n, q, e1, e2, e3⟩ := h3 i y hy
          exact ⟨q, e3, n, e1, e2⟩
        have O2 := O.same s2
        have tk : TksAt ad H2 as (subT ts ns) := ⟨by rw [hal, subT_len], fun i t e => by
          obtain ⟨n, e1, e2⟩ := subT_get hn e
          have hi : i < as.length := by rw [hal]; exact (List.getElem?_eq_some_iff.mp e1).1
          obtain ⟨n', e3, e4⟩ := ha i _ (List.getElem?_eq_getElem hi)
          rw [e1] at e3
          cases e3
          obtain ⟨p', h1, h2⟩ := O2.ks n t e2
          rw [e4] at h1
          cases h1
          exact ⟨_, List.getElem?_eq_getElem hi, h2⟩⟩
        refine ⟨_, rfl, a, _, dx, _, _, rfl, O2.ob, T.systemInit.cl, T.nSystem_table, rfl, rfl, rfl, fun x dx2 hx hdx hne => ?_⟩
        have su : Same H2 (upd (upd H2 dx2 (.own x)) x (.ins (ad "System") dx2 [])) := Same.up2 (Same.up hdx) hx
        refine ⟨x, dx2, D, tb, as, subT ts ns, tbl, rfl, upd_same, su _ _ h1, tk.same su, fun p' hp' => ?_, dis, by rw [subT_len]; exact hl, .inr (su _ _ O2.bo), ok, fun H3 s3 hsy => ⟨rfl, ?_⟩⟩
        · obtain ⟨i, hi, rfl⟩ := List.getElem_of_mem hp'
          have hi2 : i < (subT ts ns).length := by rw [subT_len, ← hal]; exact hi
          obtain ⟨p2, e1, e2⟩ := tk.2 i _ (List.getElem?_eq_getElem hi2)
          rw [List.getElem?_eq_getElem hi] at e1
          cases e1
          obtain ⟨_, _, _, _, _, Ot⟩ := e2
          exact ne_of_none Ot.ob hx
        · exact q _ x (s2.trans fun b o hb => s3 b o (ne_of_none hb hx) (su b o hb)) hsy
/-! ### can_live -/
theorem scCl : FnScope ["system", "numbers", "horizon", "number", "outcome"] ["system", "numbers", "horizon"] (defScope sCanLive) := ⟨rfl, rfl, rfl, by decide +kernel, rfl, by decide +kernel, by decide +kernel⟩
def spCl (ad : Str → Addr) : Sp := fun vs H Q E => ∃ (a p : Addr) (ts : List Tk) (tbl : List Int) (ns : List Nat) (hor : Nat), vs = [.ref a, .ref p, .int (hor : Nat)] ∧ SyAt ad H a ts tbl ∧ (∀ t ∈ ts, WfT t) ∧ H p = some (.lst (natV ns)) ∧ (∀ n ∈ ns, n < ts.length) ∧ ns.length ≤ 4 ∧ Dis (subT ts ns) ∧ WfB tbl ∧ hor ≤ 1000 ∧
  (trM (subT ts ns) tbl hor = "undecided" → UndE ad H hor E) ∧ (trM (subT ts ns) tbl hor ≠ "undecided" → ∀ H', Same H H' → Q (.bl (decide (trM (subT ts ns) tbl hor = "holds"))) H')
theorem T_cl (T : Tx K mg ad fd) : KBn K (fd "can_live") ["system", "numbers", "horizon"] 2 ["horizon"] (fun us ws => us ++ ws) (fun vs zs => vs ++ zs) := kbn_of T.canLive.fn 2 fun _ _ _ _ _ _ us ws h1 h2 => match us, ws, h1, h2 with | [_, _], [_], _, _ => rfl
theorem ok_cl (T : Tx K mg ad fd) (U : UT P K mg ad) : FnOk P w K mg base (L2.CX P w) 15 (ad "can_live") (fd "can_live") ["system", "numbers", "horizon"] (spCl ad) := by
  refine T.canLive.fn.okX scCl (fun vs H Q E h => ?_) (fun cdv A outer s H vs Q E hr h => ?_)
  · obtain ⟨a, p, ts, tbl, ns, hor, rfl, _⟩ := h
    rfl
  · obtain ⟨a, p, ts, tbl, ns, hor, rfl, hs, wf, hp, hn, hl, dis, wb, hh, q1, q2⟩ := h
    refine ⟨_, pss_cons (ps_for (passes_of rfl) rfl (pi_list (pv 1)) (pg_name (i := 3) scCl.nd rfl (.inl rfl))
        (pss_one (ps_if (pw_or (pt_cmpR op_lt (pv 3) pe_int (nomark _)) (pw_or1 (pt_cmpR op_ge (pv 3) (pe_callB call_len_seq (by rfl) T.b_len PySem.boot_len (pa_cons (pe_fld (pv 0) rfl) pa_nil)) (nomark _)))).pt (pss_one ps_never) pss_nil)))
      (pss_cons (ps_set (i := 4) scCl.nd rfl (.inl rfl) (pe_callN (ok_tr T U) hr (by rfl) T.trial.gl T.trial.fn.kp (T_tr T) pass0 (pa_cons (pe_meth (pv 0) T.systemInit.cl T.systemOnly.me (ok_on T) (hr.mono (by decide)) (T_on T) .nil pass0 (pa_cons (pv 1) pa_nil)) pa_nil) (pk_cons (pv 2) pk_nil)))
      (pss_cons (ps_if (pt_cmpR op_eq (pv 4) pe_str (nomark _)) (pss_one (ps_raiseUnd (k := 0) rfl U (hr.mono (by decide)) (takes_of rfl rfl rfl rfl) (pa_cons (pv 2) pa_nil))) pss_nil)
      (pss_one (ps_ret (pe_cmpR op_eq (pv 4) pe_str (nomark _)))))), ?_⟩
    obtain ⟨dx, ta, tb, tas, O⟩ := id hs
    have hta : (tas.map V.ref).length = ts.length := by rw [List.length_map, O.len]
    refine ⟨_, rfl, p, rfl, ⟨_, SqL.of hp⟩, for_it (walk_list (a := p) (xs := natV ns)) (fun i σ H' => ∃ v3, H' = H ∧ σ = [some (.ref a), some (.ref p), some (.int (hor : Nat)), v3, none]) ⟨none, rfl, rfl⟩ (fun i σ H' _ ⟨_, e, _⟩ => by rw [e]; exact SqL.of hp) ?_ ?_⟩
    · rintro i v σ H1 H2 hi ⟨v2, rfl, rfl⟩ ⟨rfl, ev⟩
      obtain ⟨n, en, rfl⟩ := natV_get ev
      have hlt := hn n (List.mem_of_getElem? en)
      refine ⟨_, rfl, _, _, rfl, rfl, _, rfl, ite2 (fun c => ?_) (fun _ => ?_)⟩
      · have : ((n : Nat) : Int) < 0 := of_decide_eq_true c
        omega
      refine ⟨_, rfl, _, rfl, a, _, dx, _, _, rfl, O.ob, T.systemInit.cl, T.nSystem_tasks, rfl, ta, _, rfl, .inr (SqT.of O.to), _, _, rfl, rfl, _, rfl, ite2 (fun c => ?_) (fun _ => ⟨_, rfl, rfl⟩)⟩
      have : (((tas.map V.ref).length : Nat) : Int) ≤ ((n : Nat) : Int) := of_decide_eq_true c
      omega
    · rintro σ H1 ⟨v2, rfl, rfl⟩
      refine ⟨_, rfl, a, dx, _, rfl, O.ob, rfl, _, rfl, a, p, ts, tbl, ns, rfl, hs, hp, hn, by omega, dis, wb.tb, fun H2 x s2 hx => ?_⟩
      refine ⟨_, rfl, rfl, rfl, x, subT ts ns, tbl, hor, rfl, hx, subT_wf hn wf, by rw [subT_len]; exact hl, wb, hh, fun H3 s3 => ?_⟩
      have s13 := s2.trans s3
      refine ⟨_, rfl, rfl, _, rfl, ite2 (fun c => ?_) (fun c => ?_)⟩
      · have e : V.str (trM (subT ts ns) tbl hor) = V.str "undecided" := of_decide_eq_true c
        injection e with e
        exact ⟨_, rfl, _, rfl, fun d hd => q1 e d _ (s13.free hd) (s13.trans (Same.up hd)) upd_same⟩
      · have e : trM (subT ts ns) tbl hor ≠ "undecided" := fun e => c (decide_eq_true (by rw [e]))
        refine ⟨_, rfl, rfl, ?_⟩
        have z := q2 e H3 s13
        by_cases h : trM (subT ts ns) tbl hor = "holds"
        · rw [decide_eq_true h] at z
          rw [h]
          exact z
        · rw [decide_eq_false h] at z
          have ne : ¬ V.str (trM (subT ts ns) tbl hor) = V.str "holds" := fun h2 => by injection h2 with h2; exact h h2
          rw [decide_eq_false ne]
          exact z
end
end Nl
set_option maxHeartbeats 4000000
namespace Nl
open PySem PySem.Spec PyProof.Rows L2
def nmChars : Str := "abcdefghijklmnopqrstuvwxyz0123456789"
def inNm (c : Nat) : Bool := !(Builtin.Str.occurrences nmChars ⟨#[c]⟩ 0 nmChars.length 1).isEmpty
structure NmOk (x : Str) : Prop where
  ne : 1 ≤ x.length
  len : x.length ≤ 12
  chars : ∀ (i : Nat) (c : Nat), x.cps[i]? = some c → inNm c = true
structure KsOk (ks : List Kd) : Prop where
  ne : 1 ≤ ks.length
  len : ks.length ≤ 8
  nm : ∀ k ∈ ks, NmOk k.1
  dis : ∀ (i j : Nat) (k l : Kd), i < j → ks[i]? = some k → ks[j]? = some l → k.1 ≠ l.1
  cost : ∀ k ∈ ks, 1 ≤ k.2.1 ∧ k.2.1 ≤ 1000
  dead : ∀ k ∈ ks, 1 ≤ k.2.2 ∧ k.2.2 ≤ 1000
structure WsOk (ks : List Kd) (ws : List Wy) : Prop where
  len : ws.length ≤ 16
  src : ∀ w ∈ ws, w.1 ∈ ks.map fun k => k.1
  tgt : ∀ w ∈ ws, w.2.1 ∈ ks.map fun k => k.1
  dist : ∀ w ∈ ws, 1 ≤ w.2.2 ∧ w.2.2 ≤ 1000
section
variable {P : Program} {w : World} {K : PySem.W.Frag} {mg : Str → Option Value} {base : Heap} {ad : Str → Addr} {fd : Str → FuncData}
/-! ### is_name -/
theorem scNm : FnScope ["text", "char"] ["text"] (defScope sIsName) := ⟨rfl, rfl, rfl, by decide +kernel, rfl, by decide +kernel, by decide +kernel⟩
def spNm : Sp := fun vs H Q _ => ∃ x : Str, vs = [.str x] ∧ NmOk x ∧ ∀ H', Same H H' → Q (.bl true) H'
theorem T_nm (T : Tx K mg ad fd) : Binds K (fd "is_name") ["text"] [] := T.isName.fn.binds fun _ _ _ _ _ _ us hl => match us, hl with | [_], _ => rfl
theorem ok_nm (T : Tx K mg ad fd) : FnOk P w K mg base CX0 1 (ad "is_name") (fd "is_name") ["text"] spNm := by
  obtain ⟨_, gM⟩ := T.c_MOST_NAME_CHARS
  obtain ⟨_, gN⟩ := T.c_NAME_CHARS
  refine T.isName.fn.ok scNm (fun vs H Q E h => ?_) (fun cdv A outer s H vs Q E hr h => ?_)
  · obtain ⟨x, rfl, _⟩ := h
    rfl
  · obtain ⟨x, rfl, ok, q⟩ := h
    refine ⟨_, pss_cons (ps_if (pt_not (pt_chain op_le op_le pe_int (pe_callB call_len_str (by rfl) T.b_len PySem.boot_len (pa_cons (pv 0) pa_nil)) (pe_glob (v := .int 12) (by rfl) gM ⟨_, rfl⟩))) (pss_one (ps_ret pe_bl)) pss_nil)
      (pss_one (ps_ret (pe_callB (cr_all rfl) (by rfl) T.b_all boot_all (pa_cons (pe_lc (own := [("char", 1)]) (g := gName 1) (tt := tYes) rfl scNm.nd (pi_str (pv 0)) (blkOk_by (own := [("char", 1)]) (N := ["text", "char"]) (sc := defScope sIsName) (by decide +kernel)) (fun _ _ _ _ _ => pg_name (i := 1) scNm.nd rfl (Or.inl rfl)) (fun _ _ _ _ _ => pts_nil)
        (fun _ _ _ _ _ => pe_cmpR op_in_str (pv 1) (pe_glob (v := .str nmChars) (by rfl) gN ⟨_, rfl⟩) (by with_unfolding_all rfl))) pa_nil)))), ?_⟩
    have hn := ok.ne
    have hl := ok.len
    have hsz : x.cps.size = x.length := rfl
    refine ⟨_, rfl, x, rfl, Nat.le_of_lt (small (by omega)), _, _, rfl, rfl, _, rfl, ?_⟩
    rw [if_pos (decide_eq_true (by omega))]
    refine ⟨_, _, rfl, rfl, _, rfl, ?_⟩
    rw [decide_eq_true (by omega : ((x.length : Nat) : Int) ≤ 12)]
    refine ite2 (fun c => absurd c (by decide)) (fun _ => ?_)
    refine ⟨_, rfl, x, rfl, fun D hD => lc_same (walk_str (z := x)) (fun _ v _ => v = .bl true) (fun _ _ _ _ h _ => h) (by omega) hD (fun _ _ => trivial) ?_ ?_⟩
    · rintro i v H2 H3 acc Kc hi s2 hD2 ⟨rfl, c, ec, rfl⟩ hc
      exact ⟨rfl, _, rfl, _, _, rfl, rfl, hc _ _ (Same.refl _) (congrArg V.bl (ok.chars i c ec))⟩
    · intro H1 ys s1 h1 h2 h3
      have e : ys = (List.replicate ys.length true).map V.bl := by
        apply List.ext_getElem?
        intro i
        rw [List.getElem?_map, List.getElem?_replicate]
        by_cases hi : i < ys.length
        · rw [List.getElem?_eq_getElem hi, if_pos hi, h3 i _ (List.getElem?_eq_getElem hi)]; rfl
        · rw [List.getElem?_eq_none (by omega), if_neg hi]; rfl
      rw [e] at h1
      refine ⟨D, _, rfl, SqL.of h1, ?_⟩
      rw [all_true_of (fun b hb => (List.mem_replicate.mp hb).2)]
      exact q H1 s1
/-! ### are_kinds -/
theorem scAk : FnScope ["kinds", "seen", "name", "cost", "deadline"] ["kinds"] (defScope sAreKinds) := ⟨rfl, rfl, rfl, by decide +kernel, rfl, by decide +kernel, by decide +kernel⟩
def spAk : Sp := fun vs H Q _ => ∃ (p : Addr) (ks : List Kd), vs = [.ref p] ∧ LTups kdV H p ks ∧ KsOk ks ∧ ∀ H', Same H H' → Q (.bl true) H'
theorem T_ak (T : Tx K mg ad fd) : Binds K (fd "are_kinds") ["kinds"] [] := T.areKinds.fn.binds fun _ _ _ _ _ _ us hl => match us, hl with | [_], _ => rfl
theorem ok_ak (T : Tx K mg ad fd) : FnOk P w K mg base CX0 2 (ad "are_kinds") (fd "are_kinds") ["kinds"] spAk := by
  obtain ⟨_, gK⟩ := T.c_MOST_KINDS
  obtain ⟨_, gC⟩ := T.c_MOST_COST
  obtain ⟨_, gD⟩ := T.c_MOST_DEADLINE
  refine T.areKinds.fn.ok scAk (fun vs H Q E h => ?_) (fun cdv A outer s H vs Q E hr h => ?_)
  · obtain ⟨p, ks, rfl, _⟩ := h
    rfl
  · obtain ⟨p, ks, rfl, ⟨as, hp, hts⟩, ok, q⟩ := h
    refine ⟨_, pss_cons (ps_if (pt_not (pt_chain op_le op_le pe_int (pe_callB call_len_seq (by rfl) T.b_len PySem.boot_len (pa_cons (pv 0) pa_nil)) (pe_glob (v := .int 8) (by rfl) gK ⟨_, rfl⟩))) (pss_one (ps_ret pe_bl)) pss_nil)
      (pss_cons (ps_set (i := 1) scAk.nd rfl (.inl rfl) (pe_lst pa_nil))
      (pss_cons (ps_for PassesOwn.never rfl (pi_list (pv 0)) (pg_tup rfl (pgs_cons (pg_name (i := 2) scAk.nd rfl (.inl rfl)) (pgs_cons (pg_name (i := 3) scAk.nd rfl (.inl rfl)) (pgs_cons (pg_name (i := 4) scAk.nd rfl (.inl rfl)) pgs_nil))))
        (pss_cons (ps_if (pw_or (pt_not (pt_val (pe_call (ok_nm T) hr (by rfl) T.isName.gl T.isName.fn.kp (T_nm T) .nil pass0 (pa_cons (pv 2) pa_nil)))) (pw_or1 (pt_cmpR op_in_seq (pv 2) (pv 1) (by with_unfolding_all rfl)))).pt (pss_one (ps_ret pe_bl)) pss_nil)
        (pss_cons (ps_if (pw_or (pt_not (pt_chain op_le op_le pe_int (pv 3) (pe_glob (v := .int 1000) (by rfl) gC ⟨_, rfl⟩))) (pw_or1 (pt_not (pt_chain op_le op_le pe_int (pv 4) (pe_glob (v := .int 1000) (by rfl) gD ⟨_, rfl⟩))))).pt (pss_one (ps_ret pe_bl)) pss_nil)
        (pss_one (ps_expr (pe_bm PySem.F.plainAttrs_list PySem.F.slot_list_append PySem.F.type_list_append mt_append (pv 1) (pa_cons (pv 2) pa_nil)))))))
      (pss_one (ps_ret pe_bl)))), ?_⟩
    have hn := ok.ne
    have hl := ok.len
    have hal : (as.map V.ref).length = ks.length := by rw [List.length_map, hts.1]
    refine ⟨_, rfl, p, _, rfl, .inl (SqL.of hp), _, _, rfl, rfl, _, rfl, ?_⟩
    rw [hal, if_pos (decide_eq_true (by omega))]
    refine ⟨_, _, rfl, rfl, _, rfl, ?_⟩
    rw [decide_eq_true (by omega : ((ks.length : Nat) : Int) ≤ 8)]
    refine ite2 (fun c => absurd c (by decide)) (fun _ => ?_)
    refine ⟨(by show 0 ≤ sizeLine; decide), fun sn hsn => ?_⟩
    have s1 : Same H (upd H sn (.lst [])) := Same.up hsn
    refine ⟨_, rfl, p, rfl, ⟨_, SqL.of (s1 _ _ hp)⟩, for_it (walk_list (a := p) (xs := as.map V.ref)) (fun i σ H' => ∃ v2 v3 v4, Same H H' ∧ H' sn = some (.lst (((ks.take i).map fun k => k.1).map V.str)) ∧ σ = [some (.ref p), some (.ref sn), v2, v3, v4])
      ⟨none, none, none, s1, upd_same, rfl⟩ (fun i σ H' _ ⟨_, _, _, s', _⟩ => SqL.of (s' _ _ hp)) ?_ ?_⟩
    · rintro i v σ H2 H3 hi ⟨v2, v3, v4, s2, hso, rfl⟩ ⟨rfl, ev⟩
      obtain ⟨u, k, rfl, hu, hk, hut⟩ := (hts.same s2).get ev
      have hmem := List.mem_of_getElem? hk
      have hc := ok.cost k hmem
      have hd := ok.dead k hmem
      have hno : k.1 ∉ (ks.take i).map fun k => k.1 := fun hm => by
        obtain ⟨l, hl, el⟩ := List.mem_map.mp hm
        obtain ⟨j, hj, ej⟩ := List.getElem_of_mem hl
        rw [List.length_take] at hj
        rw [List.getElem_take] at ej
        exact ok.dis j i l k (by omega) (by rw [← ej]; exact List.getElem?_eq_getElem _) hk el
      refine ⟨_, _, rfl, SqT.of hut, rfl, _, _, rfl, _, _, rfl, _, _, rfl, rfl, ?_⟩
      refine ⟨_, rfl, k.1, rfl, ok.nm k hmem, fun H4 s4 => ⟨_, rfl, ite2 (fun c => absurd c (by decide)) (fun _ => ?_)⟩⟩
      refine ⟨_, rfl, _, rfl, sn, _, rfl, .inl (SqL.of (s4 _ _ hso)), rfl, flat_strs _, _, rfl, ?_⟩
      rw [if_neg (by decide : ¬ (false = true)), inV_str, decide_eq_false hno]
      refine ite2 (fun c => absurd c (by decide)) (fun _ => ?_)
      refine ⟨_, rfl, _, _, rfl, rfl, _, rfl, ?_⟩
      rw [if_pos (decide_eq_true hc.1)]
      refine ⟨_, _, rfl, rfl, _, rfl, ?_⟩
      rw [decide_eq_true hc.2]
      refine ite2 (fun c => absurd c (by decide)) (fun _ => ?_)
      refine ⟨_, rfl, _, _, rfl, rfl, _, rfl, ?_⟩
      rw [if_pos (decide_eq_true hd.1)]
      refine ⟨_, _, rfl, rfl, _, rfl, ?_⟩
      rw [decide_eq_true hd.2]
      refine ite2 (fun c => absurd c (by decide)) (fun _ => ?_)
      refine ⟨_, rfl, .inl ⟨rfl, _, SqL.of (s4 _ _ hso)⟩, _, rfl, sn, _, _, rfl, rfl, s4 _ _ hso, small (by rw [List.length_map, List.length_map, List.length_take]; omega), ?_⟩
      refine ⟨some (.str k.1), some (.int k.2.1), some (.int k.2.2), Same.up2 (s2.trans s4) hsn, ?_, rfl⟩
      rw [upd_same, List.take_add_one, hk]
      simp
    · rintro σ H2 ⟨v2, v3, v4, s2, hso, rfl⟩
      exact q H2 s2
/-! ### are_ways -/
theorem scAw : FnScope ["ways", "kind_names", "source", "target", "distance"] ["ways", "kind_names"] (defScope sAreWays) := ⟨rfl, rfl, rfl, by decide +kernel, rfl, by decide +kernel, by decide +kernel⟩
def spAw : Sp := fun vs H Q _ => ∃ (p n : Addr) (ks : List Kd) (ws : List Wy), vs = [.ref p, .ref n] ∧ LTups wyV H p ws ∧ H n = some (.lst ((ks.map fun k => k.1).map V.str)) ∧ WsOk ks ws ∧ ∀ H', Same H H' → Q (.bl true) H'
theorem T_aw (T : Tx K mg ad fd) : Binds K (fd "are_ways") ["ways", "kind_names"] [] := T.areWays.fn.binds fun _ _ _ _ _ _ us hl => match us, hl with | [_, _], _ => rfl
theorem ok_aw (T : Tx K mg ad fd) : FnOk P w K mg base CX0 1 (ad "are_ways") (fd "are_ways") ["ways", "kind_names"] spAw := by
  obtain ⟨_, gW⟩ := T.c_MOST_WAYS
  obtain ⟨_, gD⟩ := T.c_MOST_DISTANCE
  refine T.areWays.fn.ok scAw (fun vs H Q E h => ?_) (fun cdv A outer s H vs Q E hr h => ?_)
  · obtain ⟨p, n, ks, ws, rfl, _⟩ := h
    rfl
  · obtain ⟨p, n, ks, ws, rfl, ⟨as, hp, hts⟩, hn, ok, q⟩ := h
    refine ⟨_, pss_cons (ps_if (pt_cmpR op_gt (pe_callB call_len_seq (by rfl) T.b_len PySem.boot_len (pa_cons (pv 0) pa_nil)) (pe_glob (v := .int 16) (by rfl) gW ⟨_, rfl⟩) (nomark _)) (pss_one (ps_ret pe_bl)) pss_nil)
      (pss_cons (ps_for PassesOwn.never rfl (pi_list (pv 0)) (pg_tup rfl (pgs_cons (pg_name (i := 2) scAw.nd rfl (.inl rfl)) (pgs_cons (pg_name (i := 3) scAw.nd rfl (.inl rfl)) (pgs_cons (pg_name (i := 4) scAw.nd rfl (.inl rfl)) pgs_nil))))
        (pss_cons (ps_if (pw_or (pt_cmpR op_notIn_seq (pv 2) (pv 1) (by with_unfolding_all rfl)) (pw_or1 (pt_cmpR op_notIn_seq (pv 3) (pv 1) (by with_unfolding_all rfl)))).pt (pss_one (ps_ret pe_bl)) pss_nil)
        (pss_one (ps_if (pt_not (pt_chain op_le op_le pe_int (pv 4) (pe_glob (v := .int 1000) (by rfl) gD ⟨_, rfl⟩))) (pss_one (ps_ret pe_bl)) pss_nil))))
      (pss_one (ps_ret pe_bl))), ?_⟩
    have hl := ok.len
    have hal : (as.map V.ref).length = ws.length := by rw [List.length_map, hts.1]
    refine ⟨_, rfl, p, _, rfl, .inl (SqL.of hp), _, _, rfl, rfl, _, rfl, ite2 (fun c => ?_) (fun _ => ?_)⟩
    · have : (16 : Int) < (((as.map V.ref).length : Nat) : Int) := of_decide_eq_true c
      omega
    refine ⟨_, rfl, p, rfl, ⟨_, SqL.of hp⟩, for_it (walk_list (a := p) (xs := as.map V.ref)) (fun i σ H' => ∃ v2 v3 v4, H' = H ∧ σ = [some (.ref p), some (.ref n), v2, v3, v4])
      ⟨none, none, none, rfl, rfl⟩ (fun i σ H' _ ⟨_, _, _, e, _⟩ => by rw [e]; exact SqL.of hp) ?_ ?_⟩
    · rintro i v σ H2 H3 hi ⟨v2, v3, v4, rfl, rfl⟩ ⟨rfl, ev⟩
      obtain ⟨u, y, rfl, hu, hy, hut⟩ := hts.get ev
      have hmem := List.mem_of_getElem? hy
      have h1 := ok.src y hmem
      have h2 := ok.tgt y hmem
      have h3 := ok.dist y hmem
      refine ⟨_, _, rfl, SqT.of hut, rfl, _, _, rfl, _, _, rfl, _, _, rfl, rfl, ?_⟩
      refine ⟨_, rfl, _, rfl, n, _, rfl, .inl (SqL.of hn), rfl, flat_strs _, _, rfl, ?_⟩
      rw [if_pos rfl, inV_str, decide_eq_true h1]
      refine ite2 (fun c => absurd c (by decide)) (fun _ => ?_)
      refine ⟨_, rfl, _, rfl, n, _, rfl, .inl (SqL.of hn), rfl, flat_strs _, _, rfl, ?_⟩
      rw [if_pos rfl, inV_str, decide_eq_true h2]
      refine ite2 (fun c => absurd c (by decide)) (fun _ => ?_)
      refine ⟨_, rfl, _, _, rfl, rfl, _, rfl, ?_⟩
      rw [if_pos (decide_eq_true h3.1)]
      refine ⟨_, _, rfl, rfl, _, rfl, ?_⟩
      rw [decide_eq_true h3.2]
      exact ite2 (fun c => absurd c (by decide)) (fun _ => ⟨some (.str y.1), some (.str y.2.1), some (.int y.2.2), rfl, rfl⟩)
    · rintro σ H2 ⟨v2, v3, v4, rfl, rfl⟩
      exact q _ (Same.refl _)
end
end Nl
set_option maxHeartbeats 4000000
namespace Nl
open PySem PySem.Spec PyProof.Rows L2
theorem Tups.ins {α : Type} {f : α → List V} {H H' : Hp} {as : List Addr} {xs : List α} (h : Tups f H as xs) {x C dy : Addr} {fs : List (Str × V)} (hx : H x = some (.ins C dy fs)) (s : SameX x H H') : Tups f H' as xs :=
  ⟨h.1, fun i y e => let ⟨p, h1, h2⟩ := h.2 i y e; ⟨p, h1, s _ _ (ne_of h2 hx (by simp)) h2⟩⟩
theorem LTups.same {α : Type} {f : α → List V} {H H' : Hp} {p : Addr} {xs : List α} (h : LTups f H p xs) (s : Same H H') : LTups f H' p xs := by
  obtain ⟨as, h1, h2⟩ := h
  exact ⟨as, s _ _ h1, h2.same s⟩
theorem LTups.ins {α : Type} {f : α → List V} {H H' : Hp} {p : Addr} {xs : List α} (h : LTups f H p xs) {x C dy : Addr} {fs : List (Str × V)} (hx : H x = some (.ins C dy fs)) (s : SameX x H H') : LTups f H' p xs := by
  obtain ⟨as, h1, h2⟩ := h
  exact ⟨as, s _ _ (ne_of h1 hx (by simp)) h1, h2.ins hx s⟩
theorem list_ext_str {ys : List V} {zs : List Str} (h : ys.length = zs.length) (e : ∀ (i : Nat) (y : V), ys[i]? = some y → ∃ z, zs[i]? = some z ∧ y = .str z) : ys = zs.map V.str := by
  apply List.ext_getElem?
  intro i
  rw [List.getElem?_map]
  cases hy : ys[i]? with
  | none =>
    have : zs[i]? = none := by
      rw [List.getElem?_eq_none_iff] at hy ⊢
      omega
    rw [this]; rfl
  | some y =>
    obtain ⟨z, h1, h2⟩ := e i y hy
    rw [h1, h2]; rfl
section
variable {P : Program} {w : World} {K : PySem.W.Frag} {mg : Str → Option Value} {base : Heap} {ad : Str → Addr} {fd : Str → FuncData}
/-! ### Task.__init__ -/
theorem scTi : FnScope ["self", "name", "kinds", "ways", "kind", "way"] ["self", "name", "kinds", "ways"] (defScope sTaskInit) := ⟨rfl, rfl, rfl, by decide +kernel, rfl, by decide +kernel, by decide +kernel⟩
def spTi (ad : Str → Addr) : Sp := fun vs H Q _ => ∃ (x dx kp wp : Addr) (n : Str) (ks : List Kd) (ws : List Wy), vs = [.ref x, .str n, .ref kp, .ref wp] ∧ H x = some (.ins (ad "Task") dx []) ∧ LTups kdV H kp ks ∧ LTups wyV H wp ws ∧ NmOk n ∧ KsOk ks ∧ WsOk ks ws ∧
  ∀ H', SameX x H H' → TkAt ad H' x ⟨n, ks, ws⟩ → Q .non H'
theorem T_ti (T : Tx K mg ad fd) : KBn K (fd "Task.__init__") ["self", "name", "kinds", "ways"] 2 ["kinds", "ways"] (fun us ws => us ++ ws) (fun vs zs => vs ++ zs) := kbn_of T.taskInit.fn 2 fun _ _ _ _ _ _ us ws h1 h2 => match us, ws, h1, h2 with | [_, _], [_, _], _, _ => rfl
theorem ok_ti (T : Tx K mg ad fd) : FnOk P w K mg base CX0 3 (ad "Task.__init__") (fd "Task.__init__") ["self", "name", "kinds", "ways"] (spTi ad) := by
  refine T.taskInit.fn.ok scTi (fun vs H Q E h => ?_) (fun cdv A outer s H vs Q E hr h => ?_)
  · obtain ⟨x, dx, kp, wp, n, ks, ws, rfl, _⟩ := h
    rfl
  · obtain ⟨x, dx, kp, wp, n, ks, ws, rfl, hx, hk, hw, nok, kok, wok, q⟩ := h
    refine ⟨_, pss_cons (ps_if (pw_or (pt_not (pt_val (pe_call (ok_nm T) (hr.mono (by decide)) (by rfl) T.isName.gl T.isName.fn.kp (T_nm T) .nil pass0 (pa_cons (pv 1) pa_nil)))) (pw_or1 (pt_not (pt_val (pe_call (ok_ak T) hr (by rfl) T.areKinds.gl T.areKinds.fn.kp (T_ak T) .nil pass0 (pa_cons (pv 2) pa_nil)))))).pt (pss_one ps_never) pss_nil)
      (pss_cons (ps_if (pt_not (pt_val (pe_call (ok_aw T) (hr.mono (by decide)) (by rfl) T.areWays.gl T.areWays.fn.kp (T_aw T) .nil pass0 (pa_cons (pv 3) (pa_cons (pe_lc (own := [("kind", 4)]) (g := gName 4) (tt := tYes) rfl scTi.nd (pi_list (pv 2))
        (blkOk_by (own := [("kind", 4)]) (N := ["self", "name", "kinds", "ways", "kind", "way"]) (sc := defScope sTaskInit) (by decide +kernel)) (fun _ _ _ _ _ => pg_name (i := 4) scTi.nd rfl (Or.inl rfl)) (fun _ _ _ _ _ => pts_nil) (fun _ _ _ _ _ => pe_ix (ixT K) (pv 4) pe_int (fun _ _ => rfl))) pa_nil))))) (pss_one ps_never) pss_nil)
      (pss_cons (ps_fld (pv 0) (pv 1) rfl)
      (pss_cons (ps_fld (pv 0) (pe_callTy call_tuple_of (by rfl) T.b_tuple boot_tuple (pa_cons (pe_lc (own := [("kind", 4)]) (g := gName 4) (tt := tYes) rfl scTi.nd (pi_list (pv 2))
        (blkOk_by (own := [("kind", 4)]) (N := ["self", "name", "kinds", "ways", "kind", "way"]) (sc := defScope sTaskInit) (by decide +kernel)) (fun _ _ _ _ _ => pg_name (i := 4) scTi.nd rfl (Or.inl rfl)) (fun _ _ _ _ _ => pts_nil)
        (fun _ _ _ _ _ => pe_tup (pa_cons (pe_ix (ixT K) (pv 4) pe_int (fun _ _ => rfl)) (pa_cons (pe_ix (ixT K) (pv 4) pe_int (fun _ _ => rfl)) (pa_cons (pe_ix (ixT K) (pv 4) pe_int (fun _ _ => rfl)) pa_nil))))) pa_nil)) rfl)
      (pss_one (ps_fld (pv 0) (pe_callTy call_tuple_of (by rfl) T.b_tuple boot_tuple (pa_cons (pe_lc (own := [("way", 5)]) (g := gName 5) (tt := tYes) rfl scTi.nd (pi_list (pv 3))
        (blkOk_by (own := [("way", 5)]) (N := ["self", "name", "kinds", "ways", "kind", "way"]) (sc := defScope sTaskInit) (by decide +kernel)) (fun _ _ _ _ _ => pg_name (i := 5) scTi.nd rfl (Or.inl rfl)) (fun _ _ _ _ _ => pts_nil)
        (fun _ _ _ _ _ => pe_tup (pa_cons (pe_ix (ixT K) (pv 5) pe_int (fun _ _ => rfl)) (pa_cons (pe_ix (ixT K) (pv 5) pe_int (fun _ _ => rfl)) (pa_cons (pe_ix (ixT K) (pv 5) pe_int (fun _ _ => rfl)) pa_nil))))) pa_nil)) rfl))))), ?_⟩
    have kl := kok.len
    have wl := wok.len
    refine ⟨_, rfl, n, rfl, nok, fun H1 s1 => ⟨_, rfl, ite2 (fun c => absurd c (by decide)) (fun _ => ?_)⟩⟩
    refine ⟨_, rfl, kp, ks, rfl, hk.same s1, kok, fun H2 s2 => ⟨_, rfl, ite2 (fun c => absurd c (by decide)) (fun _ => ?_)⟩⟩
    have s02 := s1.trans s2
    obtain ⟨as, hkp, hkt⟩ := hk.same s02
    have hal : (as.map V.ref).length = ks.length := by rw [List.length_map, hkt.1]
    refine ⟨_, rfl, _, rfl, kp, rfl, ⟨_, SqL.of hkp⟩, fun D hD => lc_same (walk_list (a := kp) (xs := as.map V.ref)) (fun i v _ => ∃ z, (ks.map fun k => k.1)[i]? = some z ∧ v = .str z) (fun _ _ _ _ h _ => h) (by rw [hal]; omega) hD (fun H' s' => SqL.of (s' _ _ hkp)) ?_ ?_⟩
    · rintro i v H3 H4 acc Kc hi s3 hD3 ⟨rfl, ev⟩ hc
      obtain ⟨u, k, rfl, hu, hk', hut⟩ := (hkt.same s3).get ev
      exact ⟨rfl, _, rfl, _, _, _, _, rfl, rfl, SqT.of hut, rfl, hc _ _ (Same.refl _) ⟨k.1, by rw [List.getElem?_map, hk']; rfl, rfl⟩⟩
    · intro H3 ys s3 h1 h2 h3
      rw [hal] at h2
      have ey : ys = (ks.map fun k => k.1).map V.str := list_ext_str (by rw [h2, List.length_map]) h3
      rw [ey] at h1
      have s03 := s02.trans s3
      refine ⟨wp, D, ks, ws, rfl, hw.same s03, h1, wok, fun H4 s4 => ⟨_, rfl, ite2 (fun c => absurd c (by decide)) (fun _ => ?_)⟩⟩
      have s04 := s03.trans s4
      have hx4 := s04 _ _ hx
      refine ⟨_, rfl, _, rfl, x, _, dx, _, rfl, hx4, T.taskInit.cl, T.nTask_name, by decide, ?_⟩
      have sx5 : SameX x H4 (upd H4 x (.ins (ad "Task") dx (putF "name" (.str n) []))) := SameX.upd
      obtain ⟨as5, hkp5, hkt5⟩ := (hk.same s04).ins hx4 sx5
      have hal5 : (as5.map V.ref).length = ks.length := by rw [List.length_map, hkt5.1]
      have hx5 : (upd H4 x (.ins (ad "Task") dx (putF "name" (.str n) []))) x = some (.ins (ad "Task") dx (putF "name" (.str n) [])) := upd_same
      generalize (upd H4 x (.ins (ad "Task") dx (putF "name" (.str n) []))) = H5 at *
      refine ⟨_, rfl, kp, rfl, ⟨_, SqL.of hkp5⟩, fun D2 hD2 => lc_same (walk_list (a := kp) (xs := as5.map V.ref)) (fun i v H' => ∃ k p, ks[i]? = some k ∧ v = .ref p ∧ H' p = some (.tup (kdV k)) ∧ p ≠ D2) (fun i v H H' ⟨k, p, h1, h2, h3, h4⟩ k' => ⟨k, p, h1, h2, k' _ _ h4 h3, h4⟩) (by rw [hal5]; omega) hD2 (fun H' s' => SqL.of (s' _ _ hkp5)) ?_ ?_⟩
      · rintro i v H6 H7 acc Kc hi s6 hD6 ⟨rfl, ev⟩ hc
        obtain ⟨u, k, rfl, hu, hk', hut⟩ := (hkt5.same s6).get ev
        refine ⟨rfl, _, rfl, _, _, _, _, rfl, rfl, SqT.of hut, rfl, _, rfl, _, _, _, _, rfl, rfl, SqT.of hut, rfl, _, rfl, _, _, _, _, rfl, rfl, SqT.of hut, rfl, (by show 3 ≤ sizeLine; decide), fun p hp => hc _ _ (Same.up hp) ⟨k, p, hk', rfl, upd_same, (ne_of_none hD6 hp).symm⟩⟩
      · intro H6 ys6 s6 g1 g2 g3
        rw [hal5] at g2
        obtain ⟨as6, rfl, hT6⟩ := tups_of (f := kdV) (H := H6) (ys := ys6) (xs := ks) g2 fun i k y hk' hy => by
          obtain ⟨k', p, e1, e2, e3, _⟩ := g3 i y hy
          rw [hk'] at e1
          cases e1
          exact ⟨p, e2, e3⟩
        refine ⟨D2, _, rfl, .inl ⟨SqL.of g1, fun ka hka => ?_⟩⟩
        have s7 : Same H6 (upd H6 ka (.tup (as6.map V.ref))) := Same.up hka
        have s57 := s6.trans s7
        refine ⟨_, rfl, x, _, dx, _, rfl, s57 _ _ hx5, T.taskInit.cl, T.nTask_kinds, (by show 1 < 1000; decide), ?_⟩
        have hx7 := s57 _ _ hx5
        have nka : ka ≠ x := (ne_of_none (s6 _ _ hx5) hka).symm
        have sx8 : SameX x (upd H6 ka (.tup (as6.map V.ref))) (upd (upd H6 ka (.tup (as6.map V.ref))) x (.ins (ad "Task") dx (putF "kinds" (.ref ka) (putF "name" (.str n) [])))) := SameX.upd
        have hx8 : (upd (upd H6 ka (.tup (as6.map V.ref))) x (.ins (ad "Task") dx (putF "kinds" (.ref ka) (putF "name" (.str n) [])))) x = some (.ins (ad "Task") dx (putF "kinds" (.ref ka) (putF "name" (.str n) []))) := upd_same
        have hka8 := sx8 _ _ nka upd_same
        have hkt8 := (hT6.same s7).ins hx7 sx8
        have sx48 : SameX x H4 (upd (upd H6 ka (.tup (as6.map V.ref))) x (.ins (ad "Task") dx (putF "kinds" (.ref ka) (putF "name" (.str n) [])))) := (sx5.trans (SameX.of s57)).trans sx8
        obtain ⟨as8, hwp8, hwt8⟩ := (hw.same s04).ins hx4 sx48
        generalize (upd (upd H6 ka (.tup (as6.map V.ref))) x (.ins (ad "Task") dx (putF "kinds" (.ref ka) (putF "name" (.str n) [])))) = H8 at *
        have hal8 : (as8.map V.ref).length = ws.length := by rw [List.length_map, hwt8.1]
        refine ⟨_, rfl, wp, rfl, ⟨_, SqL.of hwp8⟩, fun D3 hD3 => lc_same (walk_list (a := wp) (xs := as8.map V.ref)) (fun i v H' => ∃ k p, ws[i]? = some k ∧ v = .ref p ∧ H' p = some (.tup (wyV k)) ∧ p ≠ D3) (fun i v H H' ⟨k, p, h1, h2, h3, h4⟩ k' => ⟨k, p, h1, h2, k' _ _ h4 h3, h4⟩) (by rw [hal8]; omega) hD3 (fun H' s' => SqL.of (s' _ _ hwp8)) ?_ ?_⟩
        · rintro i v H9 H10 acc Kc hi s9 hD9 ⟨rfl, ev⟩ hc
          obtain ⟨u, k, rfl, hu, hk', hut⟩ := (hwt8.same s9).get ev
          refine ⟨rfl, _, rfl, _, _, _, _, rfl, rfl, SqT.of hut, rfl, _, rfl, _, _, _, _, rfl, rfl, SqT.of hut, rfl, _, rfl, _, _, _, _, rfl, rfl, SqT.of hut, rfl, (by show 3 ≤ sizeLine; decide), fun p hp => hc _ _ (Same.up hp) ⟨k, p, hk', rfl, upd_same, (ne_of_none hD9 hp).symm⟩⟩
        · intro H9 ys9 s9 f1 f2 f3
          rw [hal8] at f2
          obtain ⟨as9, rfl, hT9⟩ := tups_of (f := wyV) (H := H9) (ys := ys9) (xs := ws) f2 fun i k y hk' hy => by
            obtain ⟨k', p, e1, e2, e3, _⟩ := f3 i y hy
            rw [hk'] at e1
            cases e1
            exact ⟨p, e2, e3⟩
          refine ⟨D3, _, rfl, .inl ⟨SqL.of f1, fun wa hwa => ?_⟩⟩
          have s10 : Same H9 (upd H9 wa (.tup (as9.map V.ref))) := Same.up hwa
          have s810 := s9.trans s10
          have hx10 := s810 _ _ hx8
          have nwa : wa ≠ x := (ne_of_none (s9 _ _ hx8) hwa).symm
          refine ⟨_, rfl, x, _, dx, _, rfl, hx10, T.taskInit.cl, T.nTask_ways, (by show 2 < 1000; decide), ?_⟩
          have sx11 : SameX x (upd H9 wa (.tup (as9.map V.ref))) (upd (upd H9 wa (.tup (as9.map V.ref))) x (.ins (ad "Task") dx (putF "ways" (.ref wa) (putF "kinds" (.ref ka) (putF "name" (.str n) []))))) := SameX.upd
          refine q _ (((SameX.of s04).trans sx48).trans ((SameX.of s810).trans sx11)) ⟨dx, ka, wa, as6, as9, ?_, ?_, ?_, ?_, ?_⟩
          · rw [upd_same]; rfl
          · exact sx11 _ _ nka (s810 _ _ hka8)
          · exact sx11 _ _ nwa upd_same
          · exact (hkt8.same s810).ins hx10 sx11
          · exact (hT9.same s10).ins hx10 sx11
end
end Nl
set_option maxHeartbeats 4000000
namespace Nl
open PySem PySem.Spec PyProof.Rows L2
def conB (ns part : List Nat) : Bool := part.all fun n => decide (n ∈ ns)
def hpB (ns : List Nat) (pss : List (List Nat)) : Bool := pss.any fun p => conB ns p
/-- lists of lists of numbers -/
def RowN (H : Hp) (as : List Addr) (rs : List (List Nat)) : Prop := as.length = rs.length ∧ ∀ (i : Nat) (r : List Nat), rs[i]? = some r → ∃ p, as[i]? = some p ∧ H p = some (.lst (natV r))
theorem RowN.same {H H' : Hp} {as : List Addr} {rs : List (List Nat)} (h : RowN H as rs) (s : Same H H') : RowN H' as rs :=
  ⟨h.1, fun i x e => let ⟨p, h1, h2⟩ := h.2 i x e; ⟨p, h1, s _ _ h2⟩⟩
theorem RowN.at {H : Hp} {as : List Addr} {rs : List (List Nat)} (h : RowN H as rs) {i : Nat} {v : V} (e : (as.map V.ref)[i]? = some v) : ∃ p r, v = .ref p ∧ as[i]? = some p ∧ rs[i]? = some r ∧ H p = some (.lst (natV r)) := by
  rw [List.getElem?_map] at e
  cases ea : as[i]? with
  | none => rw [ea] at e; cases e
  | some p =>
    rw [ea] at e
    cases e
    have hi : i < rs.length := by rw [← h.1]; exact (List.getElem?_eq_some_iff.mp ea).1
    obtain ⟨q, h1, h2⟩ := h.2 i _ (List.getElem?_eq_getElem hi)
    rw [ea] at h1
    cases h1
    exact ⟨p, _, rfl, rfl, List.getElem?_eq_getElem hi, h2⟩
theorem flat_nat (l : List Nat) : (natV l).all flatV = true := List.all_eq_true.mpr fun v hv => by
  obtain ⟨x, _, rfl⟩ := List.mem_map.mp hv
  rfl
section
variable {P : Program} {w : World} {K : PySem.W.Frag} {mg : Str → Option Value} {base : Heap} {ad : Str → Addr} {fd : Str → FuncData}
/-! ### contains -/
theorem scCn : FnScope ["numbers", "part", "number"] ["numbers", "part"] (defScope sContains) := ⟨rfl, rfl, rfl, by decide +kernel, rfl, by decide +kernel, by decide +kernel⟩
def spCn : Sp := fun vs H Q _ => ∃ (p q : Addr) (ns part : List Nat), vs = [.ref p, .ref q] ∧ H p = some (.lst (natV ns)) ∧ H q = some (.lst (natV part)) ∧ Q (.bl (conB ns part)) H
theorem T_cn (T : Tx K mg ad fd) : Binds K (fd "contains") ["numbers", "part"] [] := T.contains.fn.binds fun _ _ _ _ _ _ us hl => match us, hl with | [_, _], _ => rfl
theorem ok_cn (T : Tx K mg ad fd) : FnOk P w K mg base CX0 1 (ad "contains") (fd "contains") ["numbers", "part"] spCn := by
  refine T.contains.fn.ok scCn (fun vs H Q E h => ?_) (fun cdv A outer s H vs Q E hr h => ?_)
  · obtain ⟨p, q, ns, part, rfl, _⟩ := h
    rfl
  · obtain ⟨p, q, ns, part, rfl, hp, hq, k⟩ := h
    refine ⟨_, pss_cons (ps_for PassesOwn.never rfl (pi_list (pv 1)) (pg_name (i := 2) scCn.nd rfl (.inl rfl))
        (pss_one (ps_if (pt_cmpR op_notIn_seq (pv 2) (pv 0) (by with_unfolding_all rfl)) (pss_one (ps_ret pe_bl)) pss_nil)))
      (pss_one (ps_ret pe_bl)), ?_⟩
    refine ⟨_, rfl, q, rfl, ⟨_, SqL.of hq⟩, for_it (walk_list (a := q) (xs := natV part)) (fun i σ H' => ∃ v2, H' = H ∧ (∀ n ∈ part.take i, n ∈ ns) ∧ σ = [some (.ref p), some (.ref q), v2]) ⟨none, rfl, fun n hn => by simp at hn, rfl⟩ (fun i σ H' _ ⟨_, e, _⟩ => by rw [e]; exact SqL.of hq) ?_ ?_⟩
    · rintro i v σ H1 H2 hi ⟨v2, rfl, hall, rfl⟩ ⟨rfl, ev⟩
      obtain ⟨n, en, rfl⟩ := natV_get ev
      refine ⟨_, rfl, _, rfl, p, _, rfl, .inl (SqL.of hp), rfl, flat_nat _, _, rfl, ?_⟩
      rw [if_pos rfl, natV, inV_nat]
      refine ite2 (fun c => ?_) (fun c => ?_)
      · have c' : n ∉ ns := by simpa using c
        have e : conB ns part = false := by
          unfold conB
          rw [List.all_eq_false]
          exact ⟨n, List.mem_of_getElem? en, by simpa using c'⟩
        rw [e] at k
        exact k
      · have c' : n ∈ ns := by simpa using c
        refine ⟨_, rfl, fun m hm => ?_, rfl⟩
        rw [List.take_add_one, en] at hm
        rcases List.mem_append.mp hm with hm | hm
        · exact hall m hm
        · rw [show m = n by simpa using hm]; exact c'
    · rintro σ H1 ⟨v2, rfl, hall, rfl⟩
      rw [natV_len, List.take_length] at hall
      have e : conB ns part = true := by
        unfold conB
        rw [List.all_eq_true]
        exact fun n hn => decide_eq_true (hall n hn)
      rw [e] at k
      exact k
/-! ### has_part -/
theorem scHp : FnScope ["numbers", "parts", "part"] ["numbers", "parts"] (defScope sHasPart) := ⟨rfl, rfl, rfl, by decide +kernel, rfl, by decide +kernel, by decide +kernel⟩
def spHp : Sp := fun vs H Q _ => ∃ (p q : Addr) (ns : List Nat) (as : List Addr) (pss : List (List Nat)), vs = [.ref p, .ref q] ∧ H p = some (.lst (natV ns)) ∧ H q = some (.lst (as.map V.ref)) ∧ RowN H as pss ∧ Q (.bl (hpB ns pss)) H
theorem T_hp (T : Tx K mg ad fd) : Binds K (fd "has_part") ["numbers", "parts"] [] := T.hasPart.fn.binds fun _ _ _ _ _ _ us hl => match us, hl with | [_, _], _ => rfl
theorem ok_hp (T : Tx K mg ad fd) : FnOk P w K mg base CX0 2 (ad "has_part") (fd "has_part") ["numbers", "parts"] spHp := by
  refine T.hasPart.fn.ok scHp (fun vs H Q E h => ?_) (fun cdv A outer s H vs Q E hr h => ?_)
  · obtain ⟨p, q, ns, as, pss, rfl, _⟩ := h
    rfl
  · obtain ⟨p, q, ns, as, pss, rfl, hp, hq, hrs, k⟩ := h
    refine ⟨_, pss_cons (ps_for PassesOwn.never rfl (pi_list (pv 1)) (pg_name (i := 2) scHp.nd rfl (.inl rfl))
        (pss_one (ps_if (pt_val (pe_call (ok_cn T) hr (by rfl) T.contains.gl T.contains.fn.kp (T_cn T) .nil pass0 (pa_cons (pv 0) (pa_cons (pv 2) pa_nil)))) (pss_one (ps_ret pe_bl)) pss_nil)))
      (pss_one (ps_ret pe_bl)), ?_⟩
    have hal : (as.map V.ref).length = pss.length := by rw [List.length_map, hrs.1]
    refine ⟨_, rfl, q, rfl, ⟨_, SqL.of hq⟩, for_it (walk_list (a := q) (xs := as.map V.ref)) (fun i σ H' => ∃ v2, H' = H ∧ (∀ r ∈ pss.take i, conB ns r = false) ∧ σ = [some (.ref p), some (.ref q), v2]) ⟨none, rfl, fun n hn => by simp at hn, rfl⟩ (fun i σ H' _ ⟨_, e, _⟩ => by rw [e]; exact SqL.of hq) ?_ ?_⟩
    · rintro i v σ H1 H2 hi ⟨v2, rfl, hall, rfl⟩ ⟨rfl, ev⟩
      obtain ⟨u, r, rfl, hu, hr', huo⟩ := hrs.at ev
      refine ⟨_, rfl, _, rfl, p, u, ns, r, rfl, hp, huo, _, rfl, ite2 (fun c => ?_) (fun c => ?_)⟩
      · have e : hpB ns pss = true := List.any_eq_true.mpr ⟨r, List.mem_of_getElem? hr', c⟩
        rw [e] at k
        exact k
      · refine ⟨_, rfl, fun m hm => ?_, rfl⟩
        rw [List.take_add_one, hr'] at hm
        rcases List.mem_append.mp hm with hm | hm
        · exact hall m hm
        · rw [show m = r by simpa using hm]
          cases h : conB ns r with
          | true => exact absurd h c
          | false => rfl
    · rintro σ H1 ⟨v2, rfl, hall, rfl⟩
      rw [hal, List.take_length] at hall
      have e : hpB ns pss = false := by
        unfold hpB
        rw [List.any_eq_false]
        intro r hr'
        rw [hall r hr']
        decide
      rw [e] at k
      exact k
end
end Nl
set_option maxHeartbeats 4000000
/-! G1: a generator's code in segments: if, for. -/
namespace PySem
open Sem (wp)
section
variable {M : Model} {A : Around} {R : GenEnd} {Y : Protocol} {n : Nat} {s₀ : Shared} {c : Code} {fs : List Frame} {s : Shared} {env : Env}
  {K : Flow → Sem Fin} {H : Value → Sem Fin} {gd : Bool → Bool} {lv : List Value → List Value}
theorem seg_If {test : Expr} {body orelse : List Stmt} {pos : Pos}
    (h : wpAny M (A.over c fs) (isTrue test env (eval test env)) (fun b s' => if b = true then Seg M A R Y n s₀ c ((execs body env).wrap K H gd lv) fs s' else Seg M A R Y n s₀ c ((execs orelse env).wrap K H gd lv) fs s')
      (fun _ _ => False) s) : Seg M A R Y n s₀ c ((exec (.If test body orelse pos) env).wrap K H gd lv) fs s := by
  show Seg M A R Y n s₀ c ((standAt pos >>= fun _ => ((isTrue test env (eval test env)) >>= fun b => if b = true then execs body env else execs orelse env)).wrap K H gd lv) fs s
  rw [Sem.bind_eq_wrap', Sem.wrap_wrap]
  refine seg_wrap (wpAny_standAt ?_)
  show Seg M A R Y n s₀ c (((isTrue test env (eval test env)) >>= fun b => if b = true then execs body env else execs orelse env).wrap K H gd lv) fs s
  rw [Sem.bind_eq_wrap', Sem.wrap_wrap]
  refine seg_wrap (wpAny_mono h (fun b s' hb => ?_) fun _ _ x => x.elim)
  cases b with
  | true => rw [if_pos rfl] at hb; exact hb
  | false => rw [if_neg Bool.false_ne_true] at hb; exact hb
/-- what a loop's call does with an exception that comes back -/
def cameBackE (env : Env) (x : Value) : Sem Unit := do
  if (← field x 1) == Value.none then unsupported "frame.own-activation:exception-without-traceback"
  setFlight x env.frame
/-- the frame that a for loop's call leaves -/
def loopFrame (env : Env) (K : Flow → Sem Fin) (H : Value → Sem Fin) (gd : Bool → Bool) (lv : List Value → List Value) (c : Code) (p : Pos) : Frame :=
  .ret (fun r => ((match r with | .ok f => (.pure f : Sem Flow) | .error e => .raise e).onRaise (cameBackE env)).wrap K H gd lv) none (gd false) (lv []) c p []
theorem seg_For {target iter : Expr} {body orelse : List Stmt} {pos : Pos}
    (h : wpAny M (A.over c fs) (eval iter env) (fun xv s₁ => wpAny M (A.over c fs) (pyIter xv) (fun it s₂ => ∀ p, Seg M A R Y n s₀ (.forLoop target it body orelse env) (M.den (.forLoop target it body orelse env)) (loopFrame env K H gd lv c p :: fs) s₂)
      (fun _ _ => False) s₁) (fun _ _ => False) s) (hs : ∀ x, foldedSetIterable iter env x = pure x) :
    Seg M A R Y n s₀ c ((exec (.For target iter body orelse pos) env).wrap K H gd lv) fs s := by
  show Seg M A R Y n s₀ c ((standAt pos >>= fun _ => (do
    let x ← foldedSetIterable iter env (← eval iter env)
    standAt iter.pos
    runOwn (.forLoop target (← holding [x] (pyIter x)) body orelse env) env)).wrap K H gd lv) fs s
  rw [Sem.bind_eq_wrap', Sem.wrap_wrap]
  refine seg_wrap (wpAny_standAt ?_)
  show Seg M A R Y n s₀ c ((eval iter env >>= fun x => (foldedSetIterable iter env x >>= fun x => (standAt iter.pos >>= fun _ => (holding [x] (pyIter x) >>= fun it => runOwn (.forLoop target it body orelse env) env)))).wrap K H gd lv) fs s
  rw [Sem.bind_eq_wrap', Sem.wrap_wrap]
  refine seg_wrap (wpAny_mono h (fun xv s₁ h₁ => ?_) fun _ _ x => x.elim)
  rw [hs]
  show Seg M A R Y n s₀ c ((standAt iter.pos >>= fun _ => (holding [xv] (pyIter xv) >>= fun it => runOwn (.forLoop target it body orelse env) env)).wrap K H gd lv) fs s₁
  rw [Sem.bind_eq_wrap', Sem.wrap_wrap]
  refine seg_wrap (wpAny_standAt ?_)
  show Seg M A R Y n s₀ c ((holding [xv] (pyIter xv) >>= fun it => runOwn (.forLoop target it body orelse env) env).wrap K H gd lv) fs s₁
  rw [Sem.bind_eq_wrap', Sem.wrap_wrap]
  refine seg_wrap (wpAny_holding (wpAny_mono h₁ (fun it s₂ h₂ => ?_) fun _ _ x => x.elim))
  exact seg_call fun p => h₂ p
end
section
variable {prog : Program} {w : World} {A : Around} {R : GenEnd} {Y : Protocol} {n : Nat} {s₀ : Shared} {fs : List Frame} {s : Shared} {env : Env}
/-- a turn of a for loop -/
theorem seg_forLoop {target : Expr} {it : Value} {body orelse : List Stmt}
    (h : wpAny (model prog w) (A.over (.forLoop target it body orelse env) fs) (pyNext it) (fun r s₁ => match r with
      | none => Seg (model prog w) A R Y n s₀ (.forLoop target it body orelse env) (.pure (.again (.block orelse env))) fs s₁
      | some v => wpAny (model prog w) (A.over (.forLoop target it body orelse env) fs) (letOwnedTupleGo target it v) (fun _ s₂ => wpAny (model prog w) (A.over (.forLoop target it body orelse env) fs) (assign target env v) (fun _ s₃ =>
          Seg (model prog w) A R Y n s₀ (.forLoop target it body orelse env) ((execs body env).wrap (fun f => match f with
            | .next | .cont => .pure (.again (.forLoop target it body orelse env))
            | .brk => .pure (.done .next)
            | .ret v => .pure (.done (.ret v))) (fun e => (do noteFrame e env; theTreesLotGoes e : Sem Unit).wrap (fun _ => .raise e) .raise id id) id id) fs s₃) (fun _ _ => False) s₂) (fun _ _ => False) s₁) (fun _ _ => False) s) :
    Seg (model prog w) A R Y n s₀ (.forLoop target it body orelse env) ((model prog w).den (.forLoop target it body orelse env)) fs s := by
  show Seg _ A R Y n s₀ _ ((forTurn target it body orelse env).onRaise (fun x => do noteFrame x env; theTreesLotGoes x)) fs s
  unfold forTurn
  rw [Sem.onRaise_eq_wrap, Sem.bind_eq_wrap', Sem.wrap_wrap]
  refine seg_wrap (wpAny_standAt ?_)
  rw [Sem.bind_eq_wrap', Sem.wrap_wrap]
  refine seg_wrap (wpAny_mono (E := fun _ _ => False) (wpAny_onRaise (E := fun _ _ => False) (wpAny_mono h (fun _ _ x => x) fun _ _ x => x.elim)) (fun r s₁ h₁ => ?_) fun _ _ x => ?_)
  · cases r with
    | none => exact h₁
    | some v =>
      show Seg _ A R Y n s₀ _ (Sem.wrap _ _ _ _ (letOwnedTupleGo target it v >>= fun _ => (assign target env v >>= fun _ => (execs body env >>= fun f => match f with
        | .next | .cont => again (.forLoop target it body orelse env)
        | .brk => pure (.done .next)
        | .ret v => pure (.done (.ret v)))))) fs s₁
      rw [Sem.bind_eq_wrap', Sem.wrap_wrap]
      refine seg_wrap (wpAny_mono h₁ (fun _ s₂ h₂ => ?_) fun _ _ x => x.elim)
      rw [Sem.bind_eq_wrap', Sem.wrap_wrap]
      refine seg_wrap (wpAny_mono h₂ (fun _ s₃ h₃ => ?_) fun _ _ x => x.elim)
      rw [Sem.bind_eq_wrap', Sem.wrap_wrap]
      rw [Sem.wrap_congr (execs body env) _ _ (K' := fun f => match f with
            | .next | .cont => .pure (.again (.forLoop target it body orelse env))
            | .brk => .pure (.done .next)
            | .ret v => .pure (.done (.ret v))) (H' := (fun e => (do noteFrame e env; theTreesLotGoes e : Sem Unit).wrap (fun _ => .raise e) .raise id id))
        (fun f => by cases f <;> rfl)
        (fun e => by first | exact Sem.bind_eq_wrap _ _ | (show (do noteFrame e env; theTreesLotGoes e : Sem Unit).bind (fun _ => .raise e) = _; rw [Sem.bind_eq_wrap]))]
      exact h₃
  · exact x.elim
/-- the loop has run out: what follows the statement -/
theorem seg_forDone {K : Flow → Sem Fin} {H : Value → Sem Fin} {gd : Bool → Bool} {lv : List Value → List Value} {c c' : Code} {p : Pos}
    (h : Seg (model prog w) A R Y n s₀ c (K .next) fs s) : Seg (model prog w) A R Y n s₀ c' (.pure (.again (.block [] env))) (loopFrame env K H gd lv c p :: fs) s := by
  refine seg_again rfl ?_
  show Seg _ A R Y n s₀ _ ((((execs [] env).onRaise (fun x => do noteFrame x env; theTreesLotGoes x)) >>= fun f => pure (.done f))) _ s
  refine seg_bind ?_
  refine wpAny_onRaise ?_
  refine wpAny_execs_nil ?_
  exact seg_leaf (.ok .next) h
end
end PySem
set_option maxHeartbeats 4000000
/-! G2: sets_of: its frame, the list that a turn hands out. -/
namespace Nl
open PySem PySem.Spec PyProof.Rows L2
abbrev soEnv (L f : Addr) (cd : Value) : Env := envOfC "sets_of" (defScope sSetsOf) L f cd
def itemE : Expr := match defBody sSetsOf with
  | [.If _ _ [.For _ _ [.For _ _ [.Expr (.Yield (some e) _) _] _ _] _ _] _] => e
  | _ => .Constant .none 0 ⟨0, 0, 0, 0⟩
/-- at q: a list of numbers -/
def ListAt (h : Heap) (q : Addr) (r : List Nat) : Prop := ∃ (its : Array Value) (c : Nat), h.get? q = some (lstObj its c) ∧ Vals (natV r) its.toList
theorem ListAt.keep {h h' : Heap} {q : Addr} {r : List Nat} (x : ListAt h q r) (k : ∀ o, h.get? q = some o → h'.get? q = some o) : ListAt h' q r := by
  obtain ⟨its, c, h1, h2⟩ := x
  exact ⟨its, c, k _ h1, h2⟩
theorem vals_int {x : Nat} {u : Value} (h : RelV (.int (x : Nat)) u) : ∃ t, u = .int (x : Nat) t := h
theorem vals_shift {n : Nat} : ∀ {r : List Nat} {vs ys : List Value}, Vals (natV r) vs → Paired (fun (v y : Value) => ∀ (i : Nat) (t : Tok), v = .int (i : Nat) t → ∃ u, y = .int ((n + 1 + i : Nat) : Int) u) vs ys → Vals (natV (r.map (n + 1 + ·))) ys
  | [], _, _, .nil, .nil => .nil
  | x :: r, _, _, .cons h1 h2, .cons g1 g2 => by
    obtain ⟨t, e⟩ := vals_int h1
    exact .cons (g1 x t e) (vals_shift h2 g2)
section
variable {P : Program} {w : World} {A : Around} {s : Shared} {L f : Addr} {cd : Value}
/-- [first] + [first + 1 + number for number in rest] -/
theorem eval_item {n : Nat} {t : Tok} {p : Addr} {r : List Nat} {m : Str → Option Value} (hh : A.handled = none) (hn : s.heap.Ns L m) (hr : m "rest" = some (.ref p)) (hc : s.heap.IsCell (L + 1) (some (.int (n : Nat) t))) (hp : ListAt s.heap p r) (hl : r.length ≤ 1000) :
    wpAny (model P w) A (eval itemE (soEnv L f cd)) (fun v s' => ∃ q h' tk, v = .ref q ∧ s' = { s with heap := h', toks := tk } ∧ (∀ b o, s.heap.get? b = some o → h'.get? b = some o) ∧ (∀ b o, s.heap.get? b = some o → b < q) ∧ ListAt h' q (n :: r.map (n + 1 + ·))) (fun _ _ => False) s := by
  show wpAny (model P w) A (eval (.BinOp _ _ _ _) (soEnv L f cd)) _ _ s
  refine wpAny_BinOp (wpAny_List ?_)
  refine Calls.spliced_cons (wpAny_Name (wpAny_loadName_cell (c := L + 1) (by rfl) (by rfl) (by rfl) hc ?_) (by rfl))
  refine Calls.spliced_nil ⟨by show 1 ≤ sizeLine; decide, ?_⟩
  obtain ⟨hp0, g, d, tk, os⟩ := s
  obtain ⟨its, c0, e0, r0⟩ := hp
  have hpl : hp0.IsList p its := ⟨_, e0, rfl, _, rfl⟩
  have hlt : p < hp0.objs.size := Heap.lt_size e0
  -- the first list
  have k1 : ∀ b o, hp0.get? b = some o → (hp0.push { cls := .type "list", data := .seq [Value.int (n : Nat) t].toArray }).get? b = some o := fun b o e => Heap.get?_push_of_some _ e
  have e1 : (hp0.push { cls := .type "list", data := .seq [Value.int (n : Nat) t].toArray }).get? hp0.objs.size = some { cls := .type "list", data := .seq [Value.int (n : Nat) t].toArray } := Heap.get?_push_size _ rfl
  have hn1 := hn.keeps k1
  have hc1 := hc.keeps k1
  have hpl1 : (hp0.push { cls := .type "list", data := .seq [Value.int (n : Nat) t].toArray }).IsList p its := ⟨_, k1 _ _ e0, rfl, _, rfl⟩
  generalize hh1 : hp0.push { cls := .type "list", data := .seq [Value.int (n : Nat) t].toArray } = h1 at *
  have hsz1 : hp0.objs.size < h1.objs.size := by rw [← hh1, Heap.size_push]; exact Nat.lt_succ_self _
  have hlt1 : p < h1.objs.size := Nat.lt_trans hlt hsz1
  refine wpAny_ListComp_free (p := fun _ => true) (F := fun v y => ∀ (i : Nat) (t : Tok), v = .int (i : Nat) t → ∃ u, y = .int ((n + 1 + i : Nat) : Int) u) (cl := [("first", L + 1)]) (by first | rfl | with_unfolding_all rfl) (by decide +kernel) (by rfl) (by decide +kernel) (by rfl) ?_
  refine wpAny_Name (wpAny_loadName_local (by rfl) (by rfl) hn1 hr ?_) (by rfl)
  have up : ∀ (s₃ : Shared), (∀ b o, b ∉ [h1.objs.size] → (h1.push { cls := .type "list_iterator", data := .fields #[.ref p, .int 0 0] }).get? b = some o → s₃.heap.get? b = some o) → ∀ b o, h1.get? b = some o → s₃.heap.get? b = some o :=
    fun s₃ hk b o e => hk b o (fun hm => by rcases List.mem_cons.mp hm with rfl | hm; exact Nat.lt_irrefl _ (Heap.lt_size e); cases hm) (Heap.get?_push_of_some _ e)
  have hlen := r0.length
  rw [natV_len] at hlen
  have hsz : its.size = r.length := by rw [hlen]; simp
  refine wpAny_pyIter_list hpl1 ⟨h1.objs.size, [h1.objs.size, p], [h1.objs.size], its.size, _, _, rfl, Walks.list hh _ _ (Nat.ne_of_lt hlt1) its, Nat.le_of_lt (small (by omega)), ⟨⟨_, Heap.get?_push_size _ rfl, rfl, rfl⟩, hpl1.push _⟩, ?_, ⟨?_, ?_⟩, ?_⟩
  · intro b hb
    show b < (h1.push _).objs.size
    rw [Heap.size_push]
    rcases List.mem_cons.mp hb with rfl | hb
    · exact Nat.lt_succ_self _
    · rcases List.mem_cons.mp hb with rfl | hb
      · exact Nat.lt_succ_of_lt hlt1
      · cases hb
  · intro C i v s₃ m₃ E' _ hP hn' hm hk _
    exact wpAny_pure ⟨rfl, _, _, rfl, fun _ _ e => e⟩
  · intro C i v s₃ m₃ E' _ hP _ hn' hm hk _
    obtain ⟨x, hx⟩ : ∃ x : Nat, ∃ t, v = .int (x : Nat) t := by
      have hi : i < its.size := (Array.getElem?_eq_some_iff.mp hP).1
      have e2 : (natV r)[i]? = some (.int (r[i]'(by omega) : Nat)) := by unfold natV; rw [List.getElem?_map, List.getElem?_eq_getElem (by omega)]; rfl
      obtain ⟨u, h1', h2'⟩ := r0.get e2
      have e3 : its.toList[i]? = its[i]? := by simp
      rw [e3, hP] at h1'
      cases h1'
      exact ⟨_, h2'⟩
    obtain ⟨tx, rfl⟩ := hx
    have hc3 : s₃.heap.IsCell (L + 1) (some (.int (n : Nat) t)) := hc1.keeps (up s₃ hk)
    refine wpAny_BinOp (wpAny_BinOp (wpAny_Name (wpAny_loadName_cell (c := L + 1) (by rfl) (by rfl) (by rfl) hc3 ?_) (by rfl)))
    refine wpAny_Constant_int (add_int ?_)
    refine wpAny_Name (wpAny_loadName_local (by rfl) (by rfl) hn' hm ?_) (by rfl)
    refine add_int ⟨fun i' t' e => ?_, _, _, rfl, fun _ _ e => e⟩
    injection e with e1 e2
    exact ⟨_, by rw [show ((n : Nat) : Int) + 1 + ((x : Nat) : Int) = ((n + 1 + i' : Nat) : Int) by omega]⟩
  · intro D h' tk' ys vs' hnew hlD hplD hlen' hP hF hk
    have e : vs' = its.toList := by
      exact list_of_places hlen' hP
    subst e
    have keep : ∀ b o, h1.get? b = some o → h'.get? b = some o := up ⟨h', g, d, tk, os⟩ hk
    rw [List.filter_eq_self.mpr (fun _ _ => rfl)] at hF
    have rr := vals_shift r0 hF
    obtain ⟨cD, eD⟩ := hplD
    have hys : ys.size = r.length := by
      have := rr.length
      rw [natV_len, List.length_map] at this
      rw [this]; simp
    have k2 : ∀ b o, hp0.get? b = some o → h'.get? b = some o := fun b o e => keep b o (by rw [← hh1]; exact Heap.get?_push_of_some _ e)
    refine PySem.P.add_list (keep _ _ e1) eD ?_ (by
      have : ([Value.int (n : Nat) t].toArray).size = 1 := rfl
      rw [this, hys]
      exact Nat.le_of_lt (small (by omega)))
    refine ⟨_, _, _, rfl, rfl, fun b o e => Heap.get?_push_of_some _ (k2 b o e), fun b o e => Heap.lt_size (k2 b o e), ⟨_, _, Heap.get?_push_size _ rfl, ?_⟩⟩
    rw [Array.toList_append]
    exact Vals.append (xs := [.int (n : Nat)]) (ys := natV (r.map (n + 1 + ·))) (.cons ⟨t, rfl⟩ .nil) rr
end
end Nl
set_option maxHeartbeats 4000000
/-! G3: what a sleeping generator asks of others, what its turns keep; the sets. -/
namespace Nl
open PySem PySem.Spec PyProof.Rows L2
/-! ### the sets -/
def outsOf (c : Nat → List (List Nat)) (m : Nat) : Nat → List (List Nat)
  | 0 => []
  | q + 1 => (c q).map (fun r => (m - (q + 1)) :: r.map (m - (q + 1) + 1 + ·)) ++ outsOf c m q
def combs : Nat → Nat → List (List Nat)
  | 0, _ => [[]]
  | k + 1, m => outsOf (combs k) m m
theorem outsOf_suffix (c : Nat → List (List Nat)) (m : Nat) : ∀ (d q : Nat), ∃ pre, outsOf c m (q + d) = pre ++ outsOf c m q
  | 0, q => ⟨[], rfl⟩
  | d + 1, q => by
    obtain ⟨pre, h⟩ := outsOf_suffix c m d q
    refine ⟨(c (q + d)).map (fun r => (m - (q + d + 1)) :: r.map (m - (q + d + 1) + 1 + ·)) ++ pre, ?_⟩
    show (c (q + d)).map _ ++ outsOf c m (q + d) = _
    rw [h, List.append_assoc]
    rfl
theorem outs_item {c : Nat → List (List Nat)} {m q j : Nat} {r : List Nat} (hq : q + 1 ≤ m) (h : (c q).reverse[j]? = some r) :
    (outsOf c m m).reverse[j + (outsOf c m q).length]? = some ((m - (q + 1)) :: r.map (m - (q + 1) + 1 + ·)) := by
  obtain ⟨pre, e⟩ := outsOf_suffix c m (m - (q + 1)) (q + 1)
  have em : q + 1 + (m - (q + 1)) = m := by omega
  rw [em] at e
  rw [e]
  show (pre ++ ((c q).map _ ++ outsOf c m q)).reverse[_]? = _
  rw [List.reverse_append, List.reverse_append, List.append_assoc, List.getElem?_append_right (by rw [List.length_reverse]; omega), List.length_reverse, Nat.add_sub_cancel, ← List.map_reverse]
  have hj := (List.getElem?_eq_some_iff.mp h).1
  rw [List.getElem?_append_left (by rw [List.length_map]; exact hj), List.getElem?_map, h]
  rfl
theorem combs_len : ∀ (k m : Nat) (r : List Nat), r ∈ combs k m → r.length = k
  | 0, m, r, h => by
    have : r = [] := by simpa [combs] using h
    rw [this]; rfl
  | k + 1, m, r, h => by
    have key : ∀ q, r ∈ outsOf (combs k) m q → r.length = k + 1 := by
      intro q
      induction q with
      | zero => intro h; simp [outsOf] at h
      | succ q ih =>
        intro h
        rcases List.mem_append.mp (show r ∈ (combs k q).map _ ++ outsOf (combs k) m q from h) with h | h
        · obtain ⟨r', h1, rfl⟩ := List.mem_map.mp h
          have := combs_len k q r' h1
          simp [this]
        · exact ih h
    exact key m h
/-! ### segments and sleep -/
def IsLst (o : Obj) : Prop := ∃ (its : Array Value) (c : Nat), o = lstObj its c
/-- what a turn of the generator whose frame is at n0 keeps -/
structure SegEff (n0 : Nat) (s s' : Shared) : Prop where
  os : s'.os = s.os
  keep : ∀ b o, s.heap.get? b = some o → (b < n0 ∨ IsLst o) → s'.heap.get? b = some o
  bare : AllBare s'.gens
  gsz : s.gens.size ≤ s'.gens.size
/-- what others keep while it sleeps (its number: g) -/
structure Asleep (base : Heap) (n0 g : Nat) (s s' : Shared) : Prop where
  base : ∀ b o, base.get? b = some o → s'.heap.get? b = some o
  own : ∀ b o, s.heap.get? b = some o → n0 ≤ b → ¬ IsLst o → s'.heap.get? b = some o
  gens : ∀ i x, g < i → s.gens[i]? = some x → s'.gens[i]? = some x
  bare : AllBare s'.gens
  gsz : s.gens.size ≤ s'.gens.size
theorem SegEff.refl {n0 : Nat} {s : Shared} (h : AllBare s.gens) : SegEff n0 s s := ⟨rfl, fun _ _ e _ => e, h, Nat.le_refl _⟩
theorem SegEff.trans {n0 n1 : Nat} {s s1 s2 : Shared} (a : SegEff n0 s s1) (b : SegEff n1 s1 s2) (h : n0 ≤ n1) : SegEff n0 s s2 :=
  ⟨b.os.trans a.os, fun c o e q => b.keep c o (a.keep c o e q) (q.imp (fun z => Nat.lt_of_lt_of_le z h) id), b.bare, Nat.le_trans a.gsz b.gsz⟩
/-- a step that keeps all that stands -/
theorem SegEff.kept {n0 : Nat} {s : Shared} {h' : Heap} {tk : Nat} (hb : AllBare s.gens) (k : ∀ b o, s.heap.get? b = some o → h'.get? b = some o) : SegEff n0 s { s with heap := h', toks := tk } :=
  ⟨rfl, fun b o e _ => k b o e, hb, Nat.le_refl _⟩
/-- a step that changes one object of its own, none of them a list -/
theorem SegEff.but {n0 a : Nat} {s : Shared} {h' : Heap} {tk : Nat} (hb : AllBare s.gens) (k : ∀ b o, b ≠ a → s.heap.get? b = some o → h'.get? b = some o) (hn : n0 ≤ a) (hl : ∀ o, s.heap.get? a = some o → ¬ IsLst o) : SegEff n0 s { s with heap := h', toks := tk } :=
  ⟨rfl, fun b o e q => k b o (fun z => by
    subst z
    rcases q with q | q
    · exact Nat.lt_irrefl _ (Nat.lt_of_lt_of_le q hn)
    · exact hl o e q) e, hb, Nat.le_refl _⟩
theorem setGen_same {s : Shared} {g i : Nat} {x : GenState} (h : i ≠ g) : (s.setGen g x).gens[i]? = s.gens[i]? := by
  simp only [Shared.setGen]
  rw [Array.getElem?_setIfInBounds]
  simp [Ne.symm h]
/-! ### the protocol -/
def YP (base : Heap) (n0 a g : Nat) (xs : List (List Nat)) : Protocol := fun n s₀ v s kap =>
  SegEff n0 s₀ s ∧ s.heap.IsGen a g ∧ (∃ p r, v = .ref p ∧ xs.reverse[n]? = some r ∧ ListAt s.heap p r ∧ n0 ≤ p ∧ ∀ o, s₀.heap.get? p = some o → ¬ IsLst o) ∧ ∀ s', Asleep base n0 g s s' → kap (.send .none) s'
def RF (n0 : Nat) : Nat → Shared → Shared → Prop := fun n s₀ s => n = 0 ∧ SegEff n0 s₀ s
def RP (n0 : Nat) : GenEnd := fun n s₀ r s₁ => ((r = .ok (.ret .none) ∨ r = .ok .next) ∧ RF n0 n s₀ s₁) ∨ ∃ e, r = .error e ∧ (fun _ _ => False : Value → Shared → Prop) e s₁
/-- asleep at s, n sets to come -/
structure Live (P : Program) (w : World) (base : Heap) (A : Around) (n0 a g : Nat) (xs : List (List Nat)) (n : Nat) (s : Shared) : Prop where
  gen : s.heap.IsGen a g
  go : ∃ gs, s.gens[g]? = some gs ∧ ∀ s', Asleep base n0 g s s' → gs.Goes (model P w) A (RP n0) (YP base n0 a g xs) n (.send .none) (s'.setGen g .running)
theorem IsGen.notLst {h : Heap} {a g : Nat} (x : h.IsGen a g) : ∀ o, h.get? a = some o → ¬ IsLst o := fun o e ⟨its, c, z⟩ => by
  obtain ⟨o', nm, qn, ho, hc, hd, _⟩ := x
  rw [e] at ho
  cases ho
  rw [z] at hd
  cases hd
theorem IsGen.atG {h h' : Heap} {a g : Nat} (x : h.IsGen a g) (k : ∀ o, h.get? a = some o → h'.get? a = some o) : h'.IsGen a g := by
  obtain ⟨o', nm, qn, ho, r⟩ := x
  exact ⟨o', nm, qn, k _ ho, r⟩
theorem Asleep.trans {base : Heap} {n0 g : Nat} {s s1 s2 : Shared} (a : Asleep base n0 g s s1) (b : Asleep base n0 g s1 s2) : Asleep base n0 g s s2 :=
  ⟨b.base, fun c o e h1 h2 => b.own c o (a.own c o e h1 h2) h1 h2, fun i x h e => b.gens i x h (a.gens i x h e), b.bare, Nat.le_trans a.gsz b.gsz⟩
/-- still asleep -/
theorem Live.still {P : Program} {w : World} {base : Heap} {A : Around} {n0 a g : Nat} {xs : List (List Nat)} {n : Nat} {s s' : Shared} (h : Live P w base A n0 a g xs n s) (ha : n0 ≤ a) (z : Asleep base n0 g s s') (hg : s'.gens[g]? = s.gens[g]?) : Live P w base A n0 a g xs n s' := by
  obtain ⟨gs, h1, h2⟩ := h.go
  exact ⟨IsGen.atG h.gen fun o e => z.own a o e ha (IsGen.notLst h.gen o e), gs, by rw [hg]; exact h1, fun s'' z' => h2 s'' (z.trans z')⟩
section
variable {P : Program} {w : World} {base : Heap} {A : Around} {n0 a g n : Nat} {xs : List (List Nat)} {s : Shared}
theorem allBare_run (h : AllBare s.gens) {x : GenState} (hx : x.bare = true) : AllBare (s.setGen g x).gens := allBare_setGen h hx
/-- a turn that gives a set -/
theorem next_live {Q : Option Value → Shared → Prop} {E : Value → Shared → Prop} (hh : A.handled = none) (hroom : A.depth < recursionLimit) (hl : base.NoLimit) (hbs : ∀ b o, base.get? b = some o → b < n0) (hb : ∀ b o, base.get? b = some o → s.heap.get? b = some o) (hba : AllBare s.gens) (L : Live P w base A.in1 n0 a g xs (n + 1) s)
    (hQ : ∀ s1 p r, xs.reverse[n]? = some r → ListAt s1.heap p r → n0 ≤ p → (∀ o, s.heap.get? p = some o → ¬ IsLst o) → SegEff n0 s s1 → Live P w base A.in1 n0 a g xs n s1 → Q (some (.ref p)) s1) :
    wpAny (model P w) A (pyNext (.ref a)) Q E s := by
  obtain ⟨gs, hgs, hgo⟩ := L.go
  have hlt : g < s.gens.size := (Array.getElem?_eq_some_iff.mp hgs).1
  have z0 : Asleep base n0 g s s := ⟨hb, fun _ _ e _ _ => e, fun _ _ _ e => e, hba, Nat.le_refl _⟩
  refine next_genG (F := RF n0) (Er := fun _ _ => False) hh (hl.keeps hb) hroom L.gen hgs (hgo s z0) (fun v s₁ gs' hbg hy => ?_) (fun s₁ hf h' k => ?_) (fun _ _ z => z.elim)
  · obtain ⟨eff, hgen, ⟨p, r, rfl, hr, hp, hpn, hpf⟩, kap⟩ := hy
    have e1 : SegEff n0 s (s₁.setGen g gs') := ⟨eff.os, eff.keep, allBare_setGen eff.bare hbg, by
      have := eff.gsz
      rw [GenW.setGen_size] at this ⊢
      exact this⟩
    have hg1 : g < s₁.gens.size := by
      have := eff.gsz
      rw [GenW.setGen_size] at this
      omega
    refine hQ _ p r hr hp hpn hpf e1 ⟨hgen, gs', setGen_at hg1, fun s'' z => ?_⟩
    refine kap _ ⟨z.base, z.own, fun i x hi e => ?_, allBare_setGen z.bare rfl, ?_⟩
    · rw [setGen_same (by omega)]
      refine z.gens i x hi ?_
      rw [setGen_same (by omega)]
      exact e
    · have := z.gsz
      rw [GenW.setGen_size] at this ⊢
      exact this
  · exact absurd hf.1 (Nat.succ_ne_zero n)
/-- the turn that ends it -/
theorem next_end {Q : Option Value → Shared → Prop} {E : Value → Shared → Prop} (hh : A.handled = none) (hroom : A.depth < recursionLimit) (hl : base.NoLimit) (hbs : ∀ b o, base.get? b = some o → b < n0) (hb : ∀ b o, base.get? b = some o → s.heap.get? b = some o) (hba : AllBare s.gens) (L : Live P w base A.in1 n0 a g xs 0 s)
    (hQ : ∀ s1, SegEff n0 s s1 → Q none s1) : wpAny (model P w) A (pyNext (.ref a)) Q E s := by
  obtain ⟨gs, hgs, hgo⟩ := L.go
  have z0 : Asleep base n0 g s s := ⟨hb, fun _ _ e _ _ => e, fun _ _ _ e => e, hba, Nat.le_refl _⟩
  refine next_genG (F := RF n0) (Er := fun _ _ => False) hh (hl.keeps hb) hroom L.gen hgs (hgo s z0) (fun v s₁ gs' hbg hy => ?_) (fun s₁ hf h' k => ?_) (fun _ _ z => z.elim)
  · obtain ⟨eff, hgen, _, kap⟩ := hy
    exact (kap s₁ ⟨fun b o e => eff.keep b o (hb b o e) (.inl (hbs b o e)), fun _ _ e _ _ => e, fun _ _ _ e => e, eff.bare, Nat.le_refl _⟩).elim
  · obtain ⟨_, eff⟩ := hf
    refine hQ _ ⟨eff.os, fun b o e q => k b o (eff.keep b o e q), allBare_setGen eff.bare rfl, ?_⟩
    have := eff.gsz
    rw [GenW.setGen_size] at this
    show s.gens.size ≤ (s₁.setGen g .finished).gens.size
    rw [GenW.setGen_size]
    exact this
end
end Nl
set_option maxHeartbeats 4000000
/-! G4: sets_of, the loops. -/
namespace Nl
open PySem PySem.Spec PyProof.Rows L2
def pass0S : Stmt := .Pass ⟨0, 0, 0, 0⟩
def for1 : Stmt := match defBody sSetsOf with
  | [.If _ _ [s] _] => s
  | _ => pass0S
def tgt1 : Expr := match for1 with
  | .For t _ _ _ _ => t
  | _ => .Constant .none 0 ⟨0, 0, 0, 0⟩
def body1 : List Stmt := match for1 with
  | .For _ _ b _ _ => b
  | _ => []
def for2 : Stmt := match body1 with
  | [s] => s
  | _ => pass0S
def tgt2 : Expr := match for2 with
  | .For t _ _ _ _ => t
  | _ => .Constant .none 0 ⟨0, 0, 0, 0⟩
def iter2 : Expr := match for2 with
  | .For _ t _ _ _ => t
  | _ => .Constant .none 0 ⟨0, 0, 0, 0⟩
def body2 : List Stmt := match for2 with
  | .For _ _ b _ _ => b
  | _ => []
/-- the frame's own objects -/
structure FS (base : Heap) (L a g m k : Nat) (h : Heap) : Prop where
  bs : ∀ b o, base.get? b = some o → h.get? b = some o
  ns : ∃ (mm : Str → Option Value) (t u : Tok), h.Ns L mm ∧ mm "many" = some (.int (m : Nat) t) ∧ mm "size" = some (.int (k : Nat) u)
  gen : h.IsGen a g
theorem FS.keep {base : Heap} {L a g m k : Nat} {h h' : Heap} (x : FS base L a g m k h) (kb : ∀ b o, base.get? b = some o → h.get? b = some o → h'.get? b = some o) (kL : ∀ o, h.get? L = some o → h'.get? L = some o) (ka : ∀ o, h.get? a = some o → h'.get? a = some o) : FS base L a g m k h' := by
  obtain ⟨b1, ⟨mm, t, u, h1, h2, h3⟩, b3⟩ := x
  exact ⟨fun b o e => kb b o e (b1 b o e), ⟨mm, t, u, h1.at kL, h2, h3⟩, IsGen.atG b3 ka⟩
theorem Ns.notLst {h : Heap} {L : Addr} {mm : Str → Option Value} (x : h.Ns L mm) : ∀ o, h.get? L = some o → ¬ IsLst o := fun o e ⟨its, c, z⟩ => by
  obtain ⟨o', es, ep, ho, hd, _⟩ := x
  rw [e] at ho
  cases ho
  rw [z] at hd
  cases hd
theorem Cell.notLst {h : Heap} {c : Addr} {v : Option Value} (x : h.IsCell c v) : ∀ o, h.get? c = some o → ¬ IsLst o := fun o e ⟨its, cc, z⟩ => by
  obtain ⟨o', ho, hd⟩ := x
  rw [e] at ho
  cases ho
  rw [z] at hd
  cases hd
theorem Cell.at {h h' : Heap} {c : Addr} {v : Option Value} (x : h.IsCell c v) (k : ∀ o, h.get? c = some o → h'.get? c = some o) : h'.IsCell c v := by
  obtain ⟨o', ho, hd⟩ := x
  exact ⟨o', k _ ho, hd⟩
section
variable {P : Program} {w : World} {base : Heap} {A : Around} {L f a g it : Addr} {cd : Value}
abbrev cF2 (L f : Addr) (cd : Value) (ai : Addr) : Code := .forLoop tgt2 (.ref ai) body2 [] (soEnv L f cd)
theorem so_inner {k m q i : Nat} {ti : Tok} (hiq : i + q + 1 = m) (hk : k ≤ 1000) (hh : A.handled = none) (hd : A.depth + 1 < recursionLimit) (hlim : base.NoLimit)
    {K2 : Flow → Sem PySem.Fin} {H2 : Value → Sem PySem.Fin} {c1 : Code} {fs1 : List Frame} {p2 : Pos} (hov : A.over c1 fs1 = A.deeper (soEnv L f cd)) (hsp : splitAtGen fs1 = none) (hgu : fs1.any Frame.guarded = false)
    {ni ai gi : Nat} (h1 : L < ni) (h2 : L + 1 < ni) (h3 : a < ni) (h4 : it < ni) (hai : ni ≤ ai) (hg : g < gi) (hLa : L < a) (hLit : L < it) (hit1 : it ≠ L + 1) (hbn : ∀ b o, base.get? b = some o → b < L)
    (hfin : ∀ s₀ s, SegEff L s₀ s → FS base L a g m (k + 1) s.heap → (∃ v, s.heap.IsCell (L + 1) v) → IsRangeIter s.heap it (0 + ((i + 1 : Nat) : Int) * 1) ((m : Int) - ((i + 1 : Nat) : Int)) 1 → g < s.gens.size →
      Seg (model P w) A (RP L) (YP base L a g (combs (k + 1) m)) (outsOf (combs k) m q).length s₀ c1 (K2 .next) fs1 s) :
    ∀ (j : Nat), ∀ (s₀ s : Shared), SegEff L s₀ s → FS base L a g m (k + 1) s.heap → s.heap.IsCell (L + 1) (some (.int (i : Nat) ti)) → IsRangeIter s.heap it (0 + ((i + 1 : Nat) : Int) * 1) ((m : Int) - ((i + 1 : Nat) : Int)) 1 → g < s.gens.size →
      Live P w base (A.deeper (soEnv L f cd)).in1 ni ai gi (combs k q) j s →
      Seg (model P w) A (RP L) (YP base L a g (combs (k + 1) m)) (j + (outsOf (combs k) m q).length) s₀ (cF2 L f cd ai) ((model P w).den (cF2 L f cd ai)) (loopFrame (soEnv L f cd) K2 H2 id id c1 p2 :: fs1) s := by
  have hov2 : A.over (cF2 L f cd ai) (loopFrame (soEnv L f cd) K2 H2 id id c1 p2 :: fs1) = A.deeper (soEnv L f cd) := (GenW.over_loop rfl rfl).trans hov
  have hsp2 : splitAtGen (loopFrame (soEnv L f cd) K2 H2 id id c1 p2 :: fs1) = none := by
    show (splitAtGen fs1).map _ = none
    rw [hsp]; rfl
  have hgu2 : (loopFrame (soEnv L f cd) K2 H2 id id c1 p2 :: fs1).any Frame.guarded = false := by
    show (false || fs1.any Frame.guarded) = false
    rw [hgu]; rfl
  have hbni : ∀ b o, base.get? b = some o → b < ni := fun b o e => Nat.lt_trans (hbn b o e) h1
  -- what an inner turn leaves of the outer's frame
  have stay : ∀ {s s1 : Shared}, SegEff ni s s1 → FS base L a g m (k + 1) s.heap → FS base L a g m (k + 1) s1.heap := fun {s s1} e x =>
    x.keep (fun b o hb h => e.keep b o h (.inl (hbni b o hb))) (fun o h => e.keep L o h (.inl h1)) (fun o h => e.keep a o h (.inl h3))
  intro j
  induction j with
  | zero =>
    intro s₀ s eff fs hc hr hgs lv
    refine seg_forLoop ?_
    rw [hov2]
    refine next_end hh hd hlim hbni fs.bs eff.bare lv fun s1 e1 => ?_
    refine seg_forDone ?_
    rw [Nat.zero_add]
    exact hfin s₀ s1 (eff.trans e1 (Nat.le_of_lt h1)) (stay e1 fs) ⟨_, Cell.at hc fun o h => e1.keep _ o h (.inl h2)⟩ (e1.keep _ _ hr (.inl h4)) (Nat.lt_of_lt_of_le hgs e1.gsz)
  | succ j ih =>
    intro s₀ s eff fs hc hr hgs lv
    refine seg_forLoop ?_
    rw [hov2]
    refine next_live hh hd hlim hbni fs.bs eff.bare lv fun s1 p r hr' hp hpn _ e1 lv1 => ?_
    have fs1' := stay e1 fs
    have hc1 := Cell.at hc fun o h => e1.keep _ o h (.inl h2)
    have hr1 := e1.keep _ _ hr (.inl h4)
    have eff1 := eff.trans e1 (Nat.le_of_lt h1)
    obtain ⟨mm, tm, tk', hns, hm1, hm2⟩ := fs1'.ns
    refine wpAny_pure ?_
    refine wpAny_assign_Name (wpAny_storeName_local (by rfl) hns fun h' hns' hsb => ?_)
    obtain ⟨hp1, G1, dr1, tk1, os1⟩ := s1
    have kb : ∀ b o, b ≠ L → hp1.get? b = some o → h'.get? b = some o := fun b o hb e => hsb.extBut b o hb e
    have hbL : ∀ b, (∃ o, base.get? b = some o) → b ≠ L := fun b ⟨o, e⟩ => Nat.ne_of_lt (hbn b o e)
    have fs2 : FS base L a g m (k + 1) h' := ⟨fun b o e => kb b o (hbL b ⟨o, e⟩) (fs1'.bs b o e), ⟨_, tm, tk', hns', by rw [if_neg (by decide)]; exact hm1, by rw [if_neg (by decide)]; exact hm2⟩, IsGen.atG fs1'.gen fun o e => kb _ o (Nat.ne_of_gt hLa) e⟩
    have hc2 : h'.IsCell (L + 1) (some (.int (i : Nat) ti)) := Cell.at hc1 fun o e => kb _ o (Nat.succ_ne_self L) e
    have hp2 : ListAt h' p r := hp.keep fun o e => kb _ o (Nat.ne_of_gt (Nat.lt_of_lt_of_le h1 hpn)) e
    have hr2 : IsRangeIter h' it _ _ 1 := kb _ _ (Nat.ne_of_gt hLit) hr1
    have eff2 : SegEff L s₀ ⟨h', G1, dr1, tk1 + 1, os1⟩ := eff1.trans (SegEff.but (n0 := L) (a := L) (s := ⟨hp1, G1, dr1, tk1, os1⟩) (tk := tk1 + 1) eff1.bare kb (Nat.le_refl _) (Ns.notLst hns)) (Nat.le_refl _)
    have hrl : r.length = k := combs_len k q r (List.mem_reverse.mp (List.mem_of_getElem? hr'))
    refine seg_execs_cons ?_
    rw [Nat.succ_add]
    refine seg_Expr_Yield hsp2 rfl hgu2 ?_
    rw [hov2]
    refine wpAny_mono (eval_item (t := ti) (p := p) (r := r) (n := i) hh hns' (by rfl) hc2 hp2 (by omega)) (fun v s3 hv kap hkap => ?_) fun _ _ z => z.elim
    obtain ⟨qd, h3', tk3, rfl, rfl, k3, hlt3, hq3⟩ := hv
    have eff3 : SegEff L s₀ ⟨h3', G1, dr1, tk3, os1⟩ := eff2.trans (SegEff.kept (n0 := L) (s := ⟨h', G1, dr1, tk1 + 1, os1⟩) eff2.bare k3) (Nat.le_refl _)
    have fs3 : FS base L a g m (k + 1) h3' := fs2.keep (fun b o _ e => k3 b o e) (fun o e => k3 _ o e) (fun o e => k3 _ o e)
    have ei : m - (q + 1) = i := by omega
    have item := outs_item (c := combs k) (m := m) (q := q) (j := j) (r := r) (by omega) hr'
    rw [ei] at item
    obtain ⟨oL, _, _, hoL, _⟩ := hns'
    refine ⟨eff3, fs3.gen, ⟨qd, _, rfl, item, hq3, Nat.le_of_lt (hlt3 L oL hoL), fun o e hl => Nat.lt_irrefl _ (hlt3 qd o (eff2.keep qd o e (.inr hl)))⟩, fun s' z => hkap .none s' ?_⟩
    show Seg _ _ _ _ _ _ _ _ _ _
    refine seg_execs_nil ?_
    refine seg_again rfl ?_
    have hc3 := Cell.at hc2 fun o e => k3 _ o e
    have hr3 := k3 _ _ hr2
    refine ih s' s' (SegEff.refl z.bare) ⟨z.base, ?_, ?_⟩ ?_ ?_ ?_ ?_
    · obtain ⟨mm3, t3, u3, n3, m3, m4⟩ := fs3.ns
      exact ⟨mm3, t3, u3, n3.at fun o e => z.own L o e (Nat.le_refl _) (Ns.notLst n3 o e), m3, m4⟩
    · exact IsGen.atG fs3.gen fun o e => z.own a o e (Nat.le_of_lt hLa) (IsGen.notLst fs3.gen o e)
    · exact Cell.at hc3 fun o e => z.own _ o e (Nat.le_succ _) (Cell.notLst hc3 o e)
    · exact z.own it _ hr3 (Nat.le_of_lt hLit) (fun ⟨its, c, y⟩ => by have := congrArg Obj.data y; cases this)
    · obtain ⟨gs, hgs1, _⟩ := lv1.go
      exact Nat.lt_trans hg (Array.getElem?_eq_some_iff.mp (z.gens gi gs hg hgs1)).1
    · refine lv1.still hai ⟨z.base, fun b o e hb hl => z.own b o (k3 b o (kb b o (Nat.ne_of_gt (Nat.lt_of_lt_of_le h1 hb)) e)) (Nat.le_trans (Nat.le_of_lt h1) hb) hl, fun i' x hi e => z.gens i' x (Nat.lt_trans hg hi) e, z.bare, z.gsz⟩ ?_
      obtain ⟨gs, hgs1, _⟩ := lv1.go
      rw [z.gens gi gs hg hgs1]
      exact hgs1.symm
end
end Nl
set_option maxHeartbeats 4000000
/-! G5: sets_of: the outer loop, the body, the call. -/
namespace Nl
open PySem PySem.Spec PyProof.Rows L2
def SOK (P : Program) (w : World) (base : Heap) (f : Addr) (k : Nat) : Prop := ∀ (A : Around) (s : Shared) (m : Nat) (t u : Tok), m ≤ 1000 → A.handled = none → A.depth < recursionLimit → (∀ b o, base.get? b = some o → s.heap.get? b = some o) → AllBare s.gens →
  codeAny (model P w) A (.call (.ref f) ⟨[.int (m : Nat) t, .int (k : Nat) u], []⟩) (fun r s' => ∃ a, r = .ok (.ret (.ref a)) ∧ s'.os = s.os ∧ (∀ b o, s.heap.get? b = some o → s'.heap.get? b = some o) ∧ AllBare s'.gens ∧ s.gens.size < s'.gens.size ∧ s.heap.objs.size ≤ a ∧
    ∀ A' : Around, A'.handled = none → A'.depth + 2 * k + 3 < recursionLimit → Live P w base A' s.heap.objs.size a s.gens.size (combs k m) (combs k m).length s') s
section
variable {P : Program} {w : World} {K : PySem.W.Frag} {mg : Str → Option Value} {base : Heap} {ad : Str → Addr} {fd : Str → FuncData} {A : Around} {L a g it : Addr} {cd : Value}
abbrev cF1 (L f : Addr) (cd : Value) (it : Addr) : Code := .forLoop tgt1 (.ref it) body1 [] (soEnv L f cd)
/-- sets_of(many - first - 1, size - 1) -/
theorem eval_inner {s : Shared} {m k q i : Nat} {ti tm tk : Tok} {mm : Str → Option Value} {Q : Value → Shared → Prop} {E : Value → Shared → Prop} (T : Tx K mg ad fd) (MD : Mod K mg base) (IH : SOK P w base (ad "sets_of") k) (hiq : i + q + 1 = m) (hm : m ≤ 1000) (hh : A.handled = none) (hd : A.depth < recursionLimit)
    (hb : ∀ b o, base.get? b = some o → s.heap.get? b = some o) (hba : AllBare s.gens) (hn : s.heap.Ns L mm) (hm1 : mm "many" = some (.int (m : Nat) tm)) (hm2 : mm "size" = some (.int ((k + 1 : Nat) : Int) tk)) (hc : s.heap.IsCell (L + 1) (some (.int (i : Nat) ti)))
    (hQ : ∀ s' ai, s'.os = s.os → (∀ b o, s.heap.get? b = some o → s'.heap.get? b = some o) → AllBare s'.gens → s.gens.size < s'.gens.size → s.heap.objs.size ≤ ai →
      (∀ A' : Around, A'.handled = none → A'.depth + 2 * k + 3 < recursionLimit → Live P w base A' s.heap.objs.size ai s.gens.size (combs k q) (combs k q).length s') → Q (.ref ai) s') :
    wpAny (model P w) A (eval iter2 (soEnv L (ad "sets_of") cd)) Q E s := by
  show wpAny (model P w) A (eval (.Call (.Name "sets_of" _) _ [] _) (soEnv L (ad "sets_of") cd)) Q E s
  refine wpAny_Call_Name_kw (Calls.Name_function_global (by rfl) (by rfl) (Calls.loadGlobal_global (MD.glob.keeps hb) T.setsOf.gl ?_) (by decide))
  refine PySem.W.callWith_K (h₀ := base) MD.kin T.setsOf.fn.kp ?_ (by rfl) (by rfl)
  refine Calls.spliced_cons (wpAny_BinOp (wpAny_BinOp (wpAny_Name (wpAny_loadName_local (by rfl) (by rfl) hn hm1 ?_) (by rfl))))
  refine wpAny_Name (wpAny_loadName_cell (c := L + 1) (by rfl) (by rfl) (by rfl) hc ?_) (by rfl)
  refine sub_int (wpAny_Constant_int (sub_int ?_))
  refine Calls.spliced_cons (wpAny_BinOp (wpAny_Name (wpAny_loadName_local (by rfl) (by rfl) hn hm2 ?_) (by rfl)))
  refine wpAny_Constant_int (sub_int ?_)
  refine Calls.spliced_nil ?_
  have e1 : ((m : Nat) : Int) - ((i : Nat) : Int) - 1 = ((q : Nat) : Int) := by omega
  have e2 : ((k + 1 : Nat) : Int) - 1 = ((k : Nat) : Int) := by omega
  rw [e1, e2]
  refine ⟨MD.kin.keeps hb, ?_⟩
  show wpAny _ _ (call (.ref (ad "sets_of")) [.int (q : Nat) _, .int (k : Nat) _]) _ _ _
  refine wpAny_call (codeAny_mono (IH A _ q _ _ (by omega) hh hd hb hba) fun r s' hr => ?_)
  obtain ⟨ai, rfl, h1, h2, h3, h4, h5, h6⟩ := hr
  exact hQ s' ai h1 h2 h3 h4 h5 h6
theorem so_outer {k m : Nat} (T : Tx K mg ad fd) (MD : Mod K mg base) (IH : SOK P w base (ad "sets_of") k) (hk : k ≤ 1000) (hm : m ≤ 1000) (hh : A.handled = none) (hd : A.depth + 2 * (k + 1) + 3 < recursionLimit)
    {K1 : Flow → Sem PySem.Fin} {H1 : Value → Sem PySem.Fin} {c0 : Code} {p1 : Pos} (hov0 : A.over c0 [] = A.deeper (soEnv L (ad "sets_of") cd)) (hLa : L < a) (hLit : L < it) (hit1 : it ≠ L + 1) (hita : it ≠ a) (hbn : ∀ b o, base.get? b = some o → b < L)
    (hK : ∀ s₀ s, SegEff L s₀ s → Seg (model P w) A (RP L) (YP base L a g (combs (k + 1) m)) 0 s₀ c0 (K1 .next) [] s) :
    ∀ (q i : Nat), i + q = m → ∀ (s₀ s : Shared), SegEff L s₀ s → FS base L a g m (k + 1) s.heap → (∃ v, s.heap.IsCell (L + 1) v) → IsRangeIter s.heap it (0 + ((i : Nat) : Int) * 1) ((m : Int) - ((i : Nat) : Int)) 1 → g < s.gens.size →
      Seg (model P w) A (RP L) (YP base L a g (combs (k + 1) m)) (outsOf (combs k) m q).length s₀ (cF1 L (ad "sets_of") cd it) ((model P w).den (cF1 L (ad "sets_of") cd it)) [loopFrame (soEnv L (ad "sets_of") cd) K1 H1 id id c0 p1] s := by
  have hov : A.over (cF1 L (ad "sets_of") cd it) [loopFrame (soEnv L (ad "sets_of") cd) K1 H1 id id c0 p1] = A.deeper (soEnv L (ad "sets_of") cd) := (GenW.over_loop rfl rfl).trans hov0
  have hlim := MD.nolimit
  intro q
  induction q with
  | zero =>
    intro i hiq s₀ s eff fs hc hr hgs
    refine seg_forLoop ?_
    rw [hov]
    have ei : i = m := by omega
    subst ei
    refine (Walks.range (prog := P) (w := w) (A := A.deeper (soEnv L (ad "sets_of") cd)) hh it 0 1 i).done s _ _ hr fun h' tk kk => ?_
    refine seg_forDone ?_
    refine hK s₀ _ (eff.trans (SegEff.but (n0 := L) (a := it) eff.bare (fun b o hb e => kk b o (by simpa using hb) e) (Nat.le_of_lt hLit) fun o e ⟨its, c, z⟩ => ?_) (Nat.le_refl _))
    have hr' : s.heap.get? it = some _ := hr
    rw [e] at hr'
    have := congrArg Obj.data ((Option.some.inj hr').symm.trans z)
    cases this
  | succ q ih =>
    intro i hiq s₀ s eff fs hc hr hgs
    refine seg_forLoop ?_
    rw [hov]
    refine (Walks.range (prog := P) (w := w) (A := A.deeper (soEnv L (ad "sets_of") cd)) hh it 0 1 m).item i s _ _ (by omega) hr fun v h' tk hv st' kk => ?_
    obtain ⟨tv, rfl⟩ := hv
    have ev : (0 : Int) + (i : Nat) * 1 = ((i : Nat) : Int) := by omega
    rw [ev]
    have kb : ∀ b o, b ≠ it → s.heap.get? b = some o → h'.get? b = some o := fun b o hb e => kk b o (by simpa using hb) e
    have hItL : ∀ o, s.heap.get? it = some o → ¬ IsLst o := fun o e ⟨its, c, z⟩ => by
      have hr' : s.heap.get? it = some _ := hr
      rw [e] at hr'
      have := congrArg Obj.data ((Option.some.inj hr').symm.trans z)
      cases this
    have eff1 : SegEff L s₀ { s with heap := h', toks := tk } := eff.trans (SegEff.but (n0 := L) (a := it) eff.bare kb (Nat.le_of_lt hLit) hItL) (Nat.le_refl _)
    have hbit : ∀ b o, base.get? b = some o → b ≠ it := fun b o e => Nat.ne_of_lt (Nat.lt_trans (hbn b o e) hLit)
    have fs1 : FS base L a g m (k + 1) h' := fs.keep (fun b o hb e => kb b o (hbit b o hb) e) (fun o e => kb _ o (Nat.ne_of_lt hLit) e) (fun o e => kb _ o (Ne.symm hita) e)
    obtain ⟨v0, hc0⟩ := hc
    have hc1 : h'.IsCell (L + 1) v0 := Cell.at hc0 fun o e => kb _ o (Ne.symm hit1) e
    refine wpAny_pure ?_
    refine wpAny_assign_Name (wpAny_storeName_cell (c := L + 1) (by rfl) (by rfl) (by rfl) hc1 fun h2 hc2 hsb => ?_)
    have kb2 : ∀ b o, b ≠ L + 1 → h'.get? b = some o → h2.get? b = some o := fun b o hb e => hsb.extBut b o hb e
    have eff2 : SegEff L s₀ { s with heap := h2, toks := tk } := eff1.trans (SegEff.but (s := { s with heap := h', toks := tk }) (tk := tk) (n0 := L) (a := L + 1) eff1.bare kb2 (Nat.le_succ _) (Cell.notLst hc1)) (Nat.le_refl _)
    have hbc : ∀ b o, base.get? b = some o → b ≠ L + 1 := fun b o e => Nat.ne_of_lt (Nat.lt_succ_of_lt (hbn b o e))
    have haL1 : a ≠ L + 1 := fun z => by
      obtain ⟨o', nm, qn, ho, hcl, hdt, hsl⟩ := fs1.gen
      obtain ⟨o2, ho2, hd2⟩ := hc1
      rw [z, ho2] at ho
      cases ho
      rw [hd2] at hdt
      cases hdt
    have fs2 : FS base L a g m (k + 1) h2 := fs1.keep (fun b o hb e => kb2 b o (hbc b o hb) e) (fun o e => kb2 _ o (Nat.ne_of_lt (Nat.lt_succ_self L)) e) (fun o e => kb2 _ o haL1 e)
    have hr2 : IsRangeIter h2 it _ _ 1 := kb2 _ _ hit1 st'
    obtain ⟨mm, tm, tk', hns, hm1, hm2⟩ := fs2.ns
    refine seg_execs_cons ?_
    refine seg_For ?_ (by intro _; rfl)
    rw [hov]
    refine eval_inner (i := i) (q := q) (k := k) (m := m) T MD IH (by omega) hm hh (by show A.depth + 1 < recursionLimit; omega) fs2.bs eff2.bare hns hm1 hm2 hc2 fun s3 ai ho3 k3 hb3 hg3 hai lv => ?_
    have lv1 := lv (A.deeper (soEnv L (ad "sets_of") cd)).in1 hh (by show A.depth + 1 + 2 * k + 3 < recursionLimit; omega)
    refine wpAny_pyIter_gen lv1.gen fun p => ?_
    have eff3 : SegEff L s₀ s3 := eff2.trans (SegEff.mk ho3 (fun b o e _ => k3 b o e) hb3 (Nat.le_of_lt hg3)) (Nat.le_refl _)
    have fs3 : FS base L a g m (k + 1) s3.heap := fs2.keep (fun b o _ e => k3 b o e) (fun o e => k3 _ o e) (fun o e => k3 _ o e)
    have elen : (outsOf (combs k) m (q + 1)).length = (combs k q).length + (outsOf (combs k) m q).length := by
      show ((combs k q).map _ ++ outsOf (combs k) m q).length = _
      rw [List.length_append, List.length_map]
    rw [elen]
    have hLs : L < h2.objs.size := hns.lt
    have hL1s : L + 1 < h2.objs.size := hc2.lt
    have has : a < h2.objs.size := by
      obtain ⟨o', _, _, ho, _⟩ := fs2.gen
      exact Heap.lt_size ho
    have hits : it < h2.objs.size := Heap.lt_size hr2
    refine so_inner (f := ad "sets_of") (cd := cd) (k := k) (m := m) (q := q) (i := i) (ti := tv) (a := a) (g := g) (it := it) (ni := h2.objs.size) (ai := ai) (gi := s.gens.size) (by omega) hk hh (by omega) hlim hov (by rfl) (by rfl) hLs hL1s has hits hai hgs hLa hLit hit1 hbn
      (fun s₀' s' eff' fs' hc' hr' hgs' => ?_) (combs k q).length s₀ s3 eff3 fs3 (hc2.keeps k3) (k3 _ _ hr2) (Nat.lt_trans hgs hg3) lv1
    refine seg_execs_nil ?_
    exact seg_again rfl (ih (i + 1) (by omega) s₀' s' eff' fs' hc' hr' hgs')
end
end Nl
set_option maxHeartbeats 4000000
/-! G6: sets_of: the body, the call. -/
namespace Nl
open PySem PySem.Spec PyProof.Rows L2
theorem gen_push {h : Heap} {g : Nat} {nm qn : Value} : (h.push { cls := .type "generator", data := .fields #[.int g 0, nm, qn] }).IsGen h.objs.size g :=
  ⟨{ cls := .type "generator", data := .fields #[.int g 0, nm, qn] }, nm, qn, Heap.get?_push_size _ rfl, rfl, rfl, rfl⟩
section
variable {P : Program} {w : World} {K : PySem.W.Frag} {mg : Str → Option Value} {base : Heap} {ad : Str → Addr} {fd : Str → FuncData} {A : Around} {L a g : Addr} {cd : Value}
abbrev c0F (L f : Addr) (cd : Value) : Code := .func (defBody sSetsOf) (soEnv L f cd)
theorem so_body0 {m : Nat} {s : Shared} (hh : A.handled = none) (hLa : L < a) (hbn : ∀ b o, base.get? b = some o → b < L)
    (hba : AllBare s.gens) (fs : FS base L a g m 0 s.heap) :
    Seg (model P w) A (RP L) (YP base L a g (combs 0 m)) 1 s (c0F L (ad "sets_of") cd) ((model P w).den (c0F L (ad "sets_of") cd)) [] s := by
  refine seg_func ?_
  refine seg_execs_cons (seg_If ?_)
  rw [GenW.over_func]
  obtain ⟨mm, tm, tk, hns, hm1, hm2⟩ := fs.ns
  refine wpAny_isTrue_Compare1 (wpAny_Name (wpAny_loadName_local (by rfl) (by rfl) hns hm2 ?_) (by rfl))
  refine wpAny_Constant_int (eq_int (wpAny_truthy_bool ?_))
  rw [if_pos (by decide)]
  refine seg_execs_cons (seg_Expr_Yield rfl rfl rfl ?_)
  rw [GenW.over_func]
  refine wpAny_List (Calls.spliced_nil ⟨Nat.zero_le _, fun kap hkap => ?_⟩)
  have kp : ∀ b o, s.heap.get? b = some o → (s.heap.push { cls := .type "list", data := .seq ([] : List Value).toArray }).get? b = some o := fun b o e => Heap.get?_push_of_some _ e
  have hLs : L < s.heap.objs.size := hns.lt
  refine ⟨SegEff.kept (n0 := L) hba kp, IsGen.atG fs.gen fun o e => kp _ o e, ⟨s.heap.objs.size, [], rfl, rfl, ⟨#[], 0, Heap.get?_push_size _ rfl, .nil⟩, Nat.le_of_lt hLs, fun o e _ => Nat.lt_irrefl _ (Heap.lt_size e)⟩, fun s' z => hkap .none s' ?_⟩
  show Seg _ _ _ _ _ _ _ _ _ _
  refine seg_execs_nil (seg_execs_nil ?_)
  exact seg_end (.ok (.ret .none)) (.inl ⟨.inl rfl, rfl, SegEff.refl z.bare⟩)
theorem so_bodyS {k m : Nat} {s : Shared} (T : Tx K mg ad fd) (MD : Mod K mg base) (IH : SOK P w base (ad "sets_of") k) (hk : k ≤ 1000) (hm : m ≤ 1000) (hh : A.handled = none) (hd : A.depth + 2 * (k + 1) + 3 < recursionLimit) (hLa : L < a) (hbn : ∀ b o, base.get? b = some o → b < L)
    (hba : AllBare s.gens) (fs : FS base L a g m (k + 1) s.heap) (hc : ∃ v, s.heap.IsCell (L + 1) v) (hgs : g < s.gens.size) :
    Seg (model P w) A (RP L) (YP base L a g (combs (k + 1) m)) (combs (k + 1) m).length s (c0F L (ad "sets_of") cd) ((model P w).den (c0F L (ad "sets_of") cd)) [] s := by
  refine seg_func ?_
  refine seg_execs_cons (seg_If ?_)
  rw [GenW.over_func]
  obtain ⟨mm, tm, tk, hns, hm1, hm2⟩ := fs.ns
  refine wpAny_isTrue_Compare1 (wpAny_Name (wpAny_loadName_local (by rfl) (by rfl) hns hm2 ?_) (by rfl))
  refine wpAny_Constant_int (eq_int (wpAny_truthy_bool ?_))
  have hne : ((((k + 1 : Nat) : Int) == 0) = true) = False := by
    simp only [beq_iff_eq, eq_iff_iff, iff_false]
    omega
  rw [if_neg (by rw [hne]; exact id)]
  refine seg_execs_cons (seg_For ?_ (by intro _; rfl))
  rw [GenW.over_func]
  obtain ⟨mb, hb1, hb2⟩ := MD.blt
  refine Call_ (Calls.Name_function_global (by rfl) (by rfl) (Calls.loadGlobal_builtin (MD.glob.keeps fs.bs) T.b_range (hb1.keeps fs.bs) ((hb2 "range" (by decide)).trans boot_range) ?_) (by decide))
  refine PyProof.Rows.callWith_type1 ?_ (by rfl) (by rfl)
  refine Calls.spliced_cons (wpAny_Name (wpAny_loadName_local (by rfl) (by rfl) hns hm1 ?_) (by rfl))
  refine Calls.spliced_nil ?_
  obtain ⟨hp, G, dr, tk0, os⟩ := s
  refine call_range_1 (wpAny_pyIter_range (IsRange.new ..) (small_one (by omega) (by omega) (by omega) (by omega)) ?_)
  intro p
  have k1 : ∀ (r i : Obj) b o, hp.get? b = some o → ((hp.push r).push i).get? b = some o := fun r i b o e => Heap.get?_push_of_some _ (Heap.get?_push_of_some _ e)
  obtain ⟨v, hc⟩ := hc
  have hLs : L < hp.objs.size := hns.lt
  have hcs : L + 1 < hp.objs.size := hc.lt
  have has : a < hp.objs.size := by
    obtain ⟨o', _, _, ho, _⟩ := fs.gen
    exact Heap.lt_size ho
  have hit : ∀ r : Obj, (hp.push r).objs.size = hp.objs.size + 1 := fun r => Heap.size_push _ _
  refine so_outer (cd := cd) (k := k) (m := m) (a := a) (g := g) T MD IH hk hm hh hd GenW.over_func hLa (by rw [hit]; exact Nat.lt_succ_of_lt hLs) (by rw [hit]; exact Nat.ne_of_gt (Nat.lt_succ_of_lt hcs)) (by rw [hit]; exact Nat.ne_of_gt (Nat.lt_succ_of_lt has)) hbn (fun s₀' s' eff' => ?_) m 0 (by omega) _ _ (SegEff.kept (n0 := L) hba (k1 _ _)) ?_ ?_ ?_ hgs
  · refine seg_execs_nil (seg_execs_nil ?_)
    exact seg_end (.ok (.ret .none)) (.inl ⟨.inl rfl, rfl, eff'⟩)
  · exact fs.keep (fun b o _ e => k1 _ _ b o e) (fun o e => k1 _ _ _ o e) (fun o e => k1 _ _ _ o e)
  · exact ⟨v, hc.keeps (k1 _ _)⟩
  · have e1 : (0 : Int) + ((0 : Nat) : Int) * 1 = 0 := by omega
    have e2 : ((m : Nat) : Int) - ((0 : Nat) : Int) = Builtin.Range.rangeSize 0 (m : Nat) 1 := by rw [rangeSize_nat]; omega
    rw [e1, e2]
    exact Heap.get?_push_size _ rfl
theorem so_call (T : Tx K mg ad fd) (MD : Mod K mg base) (k : Nat) (hk : k ≤ 1000) (IH : ∀ k', k' + 1 = k → SOK P w base (ad "sets_of") k') : SOK P w base (ad "sets_of") k := by
  intro A s m t u hm hh hd hb hba
  obtain ⟨oc, od, kV, doc, pm, an, cdv, ct, osl, efd, lk, hcd⟩ := T.setsOf.fn.ex
  rw [efd] at lk
  have KX : K.In s.heap := MD.kin.keeps hb
  have lim : s.heap.NoLimit := MD.nolimit.keeps hb
  refine codeAny_call_generator (fd := PySem.W.fnOf "sets_of" "sets_of" (defArgs sSetsOf) (defBody sSetsOf) (defScope sSetsOf) .none kV doc pm an cdv ct) hd (KX _ _ lk) rfl (by rfl) (by rfl) rfl (PySem.W.codeRec_of KX hcd) ((BindsTo.of_eq (binds := [("many", .int (m : Nat) t), ("size", .int (k : Nat) u)]) (by first | rfl | with_unfolding_all rfl)) _ _ _ _ ?_)
  refine wpAny_newFunctionEnv_cells (by rfl) (fun y hy => ?_) fun env he s1 x => ?_
  · rcases List.mem_cons.mp hy with rfl | hy
    · exact .inl rfl
    · rw [List.mem_singleton.mp hy]; exact .inl rfl
  subst he
  have lim1 : s1.heap.NoLimit := lim.keeps x.toInCall.keep
  refine ⟨lim1, ?_⟩
  obtain ⟨h1, tk, es1, hk1⟩ := x.done
  subst es1
  obtain ⟨hp, G, dr, tk0, os⟩ := s
  have hn1 : h1.Ns hp.objs.size _ := x.toInCall.ns
  have hc1 : h1.IsCell (hp.objs.size + 1) _ := x.cell "first" (hp.objs.size + 1) (by rfl)
  have hLt : hp.objs.size < h1.objs.size := hn1.lt
  have hbn : ∀ b o, base.get? b = some o → b < hp.objs.size := fun b o e => Heap.lt_size (hb b o e)
  refine ⟨h1.objs.size, rfl, rfl, fun b o e => Heap.get?_push_of_some _ (hk1 b o e), AllBare.push hba rfl, by show G.size < (G.push _).size; rw [Array.size_push]; omega, Nat.le_of_lt hLt, fun A' hh' hd' => ?_⟩
  refine ⟨gen_push, _, Array.getElem?_push_size .., fun s' z => ⟨rfl, ?_⟩⟩
  have fs : FS base hp.objs.size h1.objs.size G.size m k (s'.setGen G.size .running).heap := by
    refine ⟨z.base, ⟨_, t, u, (hn1.push _).at fun o e => z.own _ o e (Nat.le_refl _) (Ns.notLst (hn1.push _) o e), by rfl, by rfl⟩, ?_⟩
    exact IsGen.atG gen_push fun o e => z.own _ o e (Nat.le_of_lt hLt) (IsGen.notLst gen_push o e)
  have hba' : AllBare (s'.setGen G.size .running).gens := allBare_setGen z.bare rfl
  cases k with
  | zero => exact so_body0 (cd := cdv) hh' hLt hbn hba' fs
  | succ k =>
    have hcp : ∃ v, (s'.setGen G.size .running).heap.IsCell (hp.objs.size + 1) v := by
      obtain ⟨o, ho, hdt⟩ := hc1
      exact ⟨_, o, z.own _ o (Heap.get?_push_of_some _ ho) (Nat.le_succ _) (fun ⟨its, c, y⟩ => by
        rw [y] at hdt
        cases hdt), hdt⟩
    refine so_bodyS (cd := cdv) T MD (IH k rfl) (by omega) hm hh' hd' hLt hbn hba' fs hcp ?_
    have hz : G.size + 1 ≤ s'.gens.size := by
      have := z.gsz
      simpa [Array.size_push] using this
    rw [GenW.setGen_size]
    exact hz
theorem so_all (T : Tx K mg ad fd) (MD : Mod K mg base) : ∀ k, k ≤ 1000 → SOK P w base (ad "sets_of") k
  | 0, hk => so_call T MD 0 hk fun k' e => by omega
  | k + 1, hk => so_call T MD (k + 1) hk fun k' e => by
    have : k' = k := by omega
    subst this
    exact so_all T MD k' (by omega)
end
end Nl
set_option maxHeartbeats 4000000
/-! G7: list(sets_of(many, size)). -/
namespace Nl
open PySem PySem.Spec PyProof.Rows L2
/-- the list that is filled: S holds the first sets -/
structure Fill (sc : Shared) (S n0 : Nat) (xs : List (List Nat)) (n : Nat) (s : Shared) : Prop where
  os : s.os = sc.os
  bare : AllBare s.gens
  old : ∀ b o, sc.heap.get? b = some o → s.heap.get? b = some o
  at_ : ∃ (as : List Addr) (acc : Array Value) (c : Nat), s.heap.get? S = some (lstObj acc c) ∧ acc.toList = as.map Value.ref ∧ as.length + n = xs.length ∧ ∀ (i : Nat) (p : Addr), as[i]? = some p → p ≠ S ∧ n0 ≤ p ∧ ∃ r, xs[i]? = some r ∧ ListAt s.heap p r
section
variable {P : Program} {w : World} {base : Heap} {A : Around}
theorem drainS {R : Result → Shared → Prop} {S a g n0 : Nat} {xs : List (List Nat)} {sc : Shared} (hh : A.handled = none) (hd : A.depth < recursionLimit) (hlim : base.NoLimit) (hSa : S ≠ a) (hS : n0 ≤ S) (ha : n0 ≤ a) (hsc : ∀ b o, sc.heap.get? b = some o → b < n0) (hbn : ∀ b o, base.get? b = some o → sc.heap.get? b = some o) (hx : xs.length ≤ 100000)
    (hend : ∀ s', Fill sc S n0 xs 0 s' → R (.ok (.ret .none)) s') :
    ∀ (n : Nat) (s : Shared), Live P w base A.in1.in1 n0 a g xs n s → Fill sc S n0 xs n s → codeAny (model P w) A (.builtin "list.extend.loop" ⟨[.ref S, .ref a, .none], []⟩) R s := by
  intro n
  induction n with
  | zero =>
    intro s lv fl
    refine codeAny_builtin F.entry_extend_loop ?_
    rw [Around.under_plainId F.plain_extend_loop _]
    show wpAny _ A.in1 (pyNext (.ref a) >>= _) _ _ s
    refine wpAny_bind (next_end (A := A.in1) hh hd hlim (fun b o e => hsc b o (hbn b o e)) (fun b o e => fl.old b o (hbn b o e)) fl.bare lv fun s1 e1 => ?_)
    refine wpAny_pure (hend _ ⟨e1.os.trans fl.os, e1.bare, fun b o e => e1.keep b o (fl.old b o e) (.inl (hsc b o e)), ?_⟩)
    obtain ⟨as, acc, c, h1, h2, h3, h4⟩ := fl.at_
    refine ⟨as, acc, c, e1.keep _ _ h1 (.inr ⟨acc, c, rfl⟩), h2, h3, fun i p hi => ?_⟩
    obtain ⟨g1, g2, r, g3, its, cc, g4, g5⟩ := h4 i p hi
    exact ⟨g1, g2, r, g3, its, cc, e1.keep _ _ g4 (.inr ⟨its, cc, rfl⟩), g5⟩
  | succ n ih =>
    intro s lv fl
    refine codeAny_builtin F.entry_extend_loop ?_
    rw [Around.under_plainId F.plain_extend_loop _]
    show wpAny _ A.in1 (pyNext (.ref a) >>= _) _ _ s
    refine wpAny_bind (next_live (A := A.in1) hh hd hlim (fun b o e => hsc b o (hbn b o e)) (fun b o e => fl.old b o (hbn b o e)) fl.bare lv fun s1 p r hr hp hpn hpf e1 lv1 => ?_)
    obtain ⟨as, acc, c, h1, h2, h3, h4⟩ := fl.at_
    have hS1 := e1.keep _ _ h1 (.inr ⟨acc, c, rfl⟩)
    have hacc : acc.size = as.length := by
      have := congrArg List.length h2
      simpa using this
    show wpAny _ A.in1 (updateSeq S (·.push (.ref p)) >>= _) _ _ _
    refine wpAny_bind ?_
    refine wpAny_updateSeq hS1 rfl (wpAny_pure ⟨plainId_quiet F.plain_extend_loop _, ?_⟩) (Nat.le_of_lt (small (by omega))) (by show (acc.push _).size ≤ sizeLine + 1; rw [Array.size_push]; exact Nat.succ_le_succ (Nat.le_of_lt (small (by omega))))
    have keep3 : ∀ b o, b ≠ S → s1.heap.get? b = some o → (s1.heap.update S (Obj.mapSeq (·.push (.ref p)))).get? b = some o := fun b o hb e => (Heap.get?_update_other _ _ (Ne.symm hb)).trans e
    have hS3 : (s1.heap.update S (Obj.mapSeq (·.push (.ref p)))).get? S = some (lstObj (acc.push (.ref p)) _) := Heap.get?_update_self _ hS1 rfl
    have hpS : p ≠ S := fun z => hpf _ (by rw [z]; exact h1) ⟨acc, c, rfl⟩
    have hxi : xs[as.length]? = some r := by
      have hl : n < xs.length := by omega
      rw [List.getElem?_reverse hl] at hr
      rw [← hr]
      congr 1
      omega
    refine ih _ (lv1.still ha ⟨fun b o e => keep3 b o (fun z => absurd (hsc b o (hbn b o e)) (by rw [z]; exact Nat.not_lt.mpr hS)) (e1.keep b o (fl.old b o (hbn b o e)) (.inl (hsc b o (hbn b o e)))), fun b o e hb hl => keep3 b o (fun z => by
        subst z
        rw [hS1] at e
        cases e
        exact hl ⟨acc, c, rfl⟩) e, fun i x _ e => e, e1.bare, Nat.le_refl _⟩ rfl) ⟨e1.os.trans fl.os, e1.bare, fun b o e => keep3 b o (fun z => absurd (hsc b o e) (by rw [z]; exact Nat.not_lt.mpr hS)) (e1.keep b o (fl.old b o e) (.inl (hsc b o e))), as ++ [p], _, _, hS3, ?_, by rw [List.length_append, List.length_singleton]; omega, fun i q hi => ?_⟩
    · rw [Array.toList_push, h2, List.map_append]; rfl
    · by_cases hil : i < as.length
      · rw [List.getElem?_append_left hil] at hi
        obtain ⟨g1, g2, r', g3, its, cc, g4, g5⟩ := h4 i q hi
        exact ⟨g1, g2, r', g3, its, cc, keep3 _ _ g1 (e1.keep _ _ g4 (.inr ⟨its, cc, rfl⟩)), g5⟩
      · have hl := (List.getElem?_eq_some_iff.mp hi).1
        rw [List.length_append, List.length_singleton] at hl
        have hi' : i = as.length := by omega
        subst hi'
        rw [List.getElem?_append_right (Nat.le_refl _), Nat.sub_self] at hi
        cases hi
        exact ⟨hpS, hpn, r, hxi, hp.keep fun o e => keep3 _ o hpS e⟩
end
end Nl
set_option maxHeartbeats 4000000
/-! G8: list(sets_of(many, size)) as an expression. -/
namespace Nl
open PySem PySem.Spec PyProof.Rows L2
section
variable {P : Program} {w : World} {base : Heap} {A : Around}
theorem call_list_sets {Q : Value → Shared → Prop} {E : Value → Shared → Prop} {a g n0 k : Nat} {xs : List (List Nat)} {sc s : Shared} (hh : A.handled = none) (hd : A.depth + 2 * k + 10 < recursionLimit) (hlim : base.NoLimit) (ha : n0 ≤ a) (hsc : ∀ b o, sc.heap.get? b = some o → b < n0) (hbn : ∀ b o, base.get? b = some o → sc.heap.get? b = some o) (hx : xs.length ≤ 100000)
    (hos : s.os = sc.os) (old : ∀ b o, sc.heap.get? b = some o → s.heap.get? b = some o) (hba : AllBare s.gens) (lv : ∀ A' : Around, A'.handled = none → A'.depth + 2 * k + 3 < recursionLimit → Live P w base A' n0 a g xs xs.length s)
    (hQ : ∀ s' S, n0 ≤ S → Fill sc S n0 xs 0 s' → Q (.ref S) s') : wpAny (model P w) A (call (.type "list") [.ref a]) Q E s := by
  have l0 := lv A hh (by omega)
  have hg := l0.gen
  have has : a < s.heap.objs.size := by
    obtain ⟨o, _, _, ho, _⟩ := hg
    exact Heap.lt_size ho
  have hSa : s.heap.objs.size ≠ a := Nat.ne_of_gt has
  refine callType_codes (Q₁ := fun obj s₁ => obj = .ref s.heap.objs.size ∧ s₁ = { s with heap := s.heap.push { cls := .type "list", data := .seq #[] } }) F.called_list (F.typeCall_list_1 _) F.entry_list_init (code_list_new _ ⟨rfl, rfl⟩) fun obj s₁ h₁ => ?_
  obtain ⟨rfl, rfl⟩ := h₁
  have hS : (s.heap.push { cls := .type "list", data := .seq #[] }).get? s.heap.objs.size = some { cls := .type "list", data := .seq #[] } := Heap.get?_push_size _ rfl
  refine ⟨⟨_, hS, rfl⟩, F.args_list_init_2 _ _, ?_⟩
  show wpAny _ A.in1.in1 (do let old ← Builtin.List.listItems (.ref s.heap.objs.size); Builtin.List.listUpdate (.ref s.heap.objs.size) (fun _ => #[]); letGo old.toList.reverse; Builtin.List.listExtendWith (.ref s.heap.objs.size) (.ref a) .none) _ _ _
  refine wpAny_bind ?_
  unfold Builtin.List.listItems
  refine wpAny_bind (wpAny_seqItems hS rfl (wpAny_pure ?_))
  show wpAny _ A.in1.in1 (updateSeq s.heap.objs.size (fun _ => #[]) >>= fun _ => letGo (#[] : Array Value).toList.reverse >>= fun _ => Builtin.List.listExtendWith (.ref s.heap.objs.size) (.ref a) .none) _ _ _
  refine wpAny_bind (wpAny_updateSeq hS rfl ?_)
  have hS2 := Heap.get?_update_self (Obj.mapSeq (fun _ => (#[] : Array Value))) hS rfl
  refine wpAny_bind (wpAny_letGo ?_)
  unfold Builtin.List.listExtendWith
  have up : ∀ (h : Heap) (f : Obj → Obj), (∀ b o, s.heap.get? b = some o → h.get? b = some o) → ∀ b o, s.heap.get? b = some o → (h.update s.heap.objs.size f).get? b = some o := fun h f q b o e =>
    (Heap.get?_update_other _ _ (Ne.symm (Nat.ne_of_lt (Heap.lt_size e)))).trans (q b o e)
  have k1 : ∀ b o, s.heap.get? b = some o → (s.heap.push { cls := .type "list", data := .seq #[] }).get? b = some o := fun b o e => Heap.get?_push_of_some _ e
  have k2 := up _ (Obj.mapSeq (fun _ => (#[] : Array Value))) k1
  have gty : ∀ {h : Heap}, (∀ b o, s.heap.get? b = some o → h.get? b = some o) → h.IsGen a g := fun {h} q => hg.keeps q
  refine wpAny_bind (wpAny_typeOf (Heap.IsGen.typeIs (s := { s with heap := _ }) (gty k2)) ?_)
  have h1 : Builtin.List.listSameRef (.ref s.heap.objs.size) (.ref a) = false := by simp [Builtin.List.listSameRef, hSa]
  have h2 : (Value.type "generator" == Value.type "list") = false := by decide
  have h3 : (Value.type "generator" == Value.type "tuple") = false := by decide
  simp only [h1, h2, h3, Bool.or_false, Bool.false_eq_true, if_false]
  refine wpAny_bind (wpAny_pyIter_gen (s := { s with heap := _ }) (gty k2) ?_)
  refine wpAny_bind (wpAny_holding ?_)
  unfold Builtin.List.listLengthHint
  refine wpAny_bind (wpAny_specialOf (Heap.IsGen.typeIs (s := { s with heap := _ }) (gty k2)) F.gen_no_len ?_)
  show wpAny _ A.in1.in1 (specialOf (Value.ref a) (Str.ofString "__length_hint__") >>= _) _ _ _
  refine wpAny_bind (wpAny_specialOf (Heap.IsGen.typeIs (s := { s with heap := _ }) (gty k2)) F.gen_no_hint ?_)
  refine wpAny_pure ?_
  show wpAny _ A.in1.in1 (rule "list.extend.makes-room" >>= fun _ => Builtin.List.listTouch (.ref s.heap.objs.size) >>= fun _ =>
    again (.builtin "list.extend.loop" ⟨[.ref s.heap.objs.size, .ref a, .none], []⟩)) _ _ _
  refine wpAny_bind (wpAny_rule ?_)
  refine wpAny_bind ?_
  show wpAny _ A.in1.in1 (updateSeq s.heap.objs.size (·.push .none) >>= fun _ => updateSeq s.heap.objs.size (·.pop)) _ _ _
  refine wpAny_bind (wpAny_updateSeq hS2 rfl ?_)
  have hS3 := Heap.get?_update_self (Obj.mapSeq (·.push Value.none)) hS2 rfl
  refine wpAny_updateSeq (hz := by seq_fits) hS3 rfl ?_
  have hS4 := Heap.get?_update_self (Obj.mapSeq (·.pop)) hS3 rfl
  have k4 := up _ (Obj.mapSeq (·.pop)) (up _ (Obj.mapSeq (·.push Value.none)) k2)
  refine wpAny_pure ⟨plainId_quiet F.plain_extend_loop _, ?_⟩
  have hn0 : n0 ≤ s.heap.objs.size := Nat.le_trans ha (Nat.le_of_lt has)
  refine drainS (A := A.in1) (base := base) (S := s.heap.objs.size) (g := g) (n0 := n0) (xs := xs) (sc := sc) hh (by show A.depth < _; omega) hlim hSa hn0 ha hsc hbn hx (fun s' fl => ⟨rfl, hQ s' _ hn0 fl⟩) xs.length _
    ((lv A.in1.in1.in1 hh (by show A.depth + 2 * k + 3 < _; omega)).still ha ⟨fun b o e => k4 b o (old b o (hbn b o e)), fun b o e _ _ => k4 b o e, fun i x _ e => e, hba, Nat.le_refl _⟩ rfl)
    ⟨hos, hba, fun b o e => k4 b o (old b o e), [], _, _, hS4, rfl, by simp, fun i p e => by simp at e⟩
end
/-! ### the expression -/
theorem vals_nat_uniq : ∀ {r r' : List Nat} {us : List Value}, Vals (natV r) us → Vals (natV r') us → r = r' := by
  intro r
  induction r with
  | nil =>
    intro r' us h g
    cases h
    cases r' with
    | nil => rfl
    | cons y r' => cases g
  | cons x r ih =>
    intro r' us h g
    cases h with
    | cons h1 h2 =>
      cases r' with
      | nil => cases g
      | cons y r' =>
        cases g with
        | cons g1 g2 =>
          obtain ⟨t, e⟩ := vals_int h1
          obtain ⟨u, e'⟩ := vals_int g1
          rw [e] at e'
          injection e' with e1 e2
          have hxy : x = y := by omega
          rw [hxy, ih h2 g2]
open Classical in
/-- the heap with the sets tracked -/
noncomputable def trkS (H : Hp) (S : Addr) (as : List Addr) (xs : List (List Nat)) : Hp := fun b =>
  if b = S then some (.lst (as.map V.ref)) else if h : ∃ (i : Nat) (r : List Nat), as[i]? = some b ∧ xs[i]? = some r then some (.lst (natV h.choose_spec.choose)) else H b
def tSets (ta : TA) : TE := fun σ H Q => ta σ H fun vs H1 => ∃ m k : Nat, vs = [.int (m : Nat), .int (k : Nat)] ∧ m ≤ 1000 ∧ k ≤ 6 ∧ (combs k m).length ≤ 100000 ∧
  ∀ H' p as, Same H1 H' → H1 p = none → H' p = some (.lst (as.map V.ref)) → RowN H' as (combs k m) → (∀ b ∈ as, H1 b = none) → Q (.ref p) H'
section
variable {X : Cx} {ad : Str → Addr} {fd : Str → FuncData} {e1 e2 : Expr} {ta : TA} {p p2 pos pos2 : Pos}
theorem pe_sets (T : Tx X.K X.mg ad fd) (hr : Room 20 X.A) (ha : PA X [e1, e2] ta) (hgl : Gl X "list") (hgs : Gl X "sets_of")
    (he : starEach [.Call (.Name "sets_of" p2) [e1, e2] [] pos2] X.env = (false, eval (.Call (.Name "sets_of" p2) [e1, e2] [] pos2) X.env) :: starEach [] X.env := by rfl)
    (he2 : starEach [e1, e2] X.env = (false, eval e1 X.env) :: starEach [e2] X.env := by rfl) (hpl2 : (backTo pos2 (starEach [e2] X.env)).any (·.1) = false := by rfl) :
    PE X (.Call (.Name "list" p) [.Call (.Name "sets_of" p2) [e1, e2] [] pos2] [] pos) (tSets ta) := by
  refine ⟨fun pins s σ H Q I hq => ?_⟩
  refine wpAny_Call_Name_kw (ld_blt I hgl T.b_list boot_list ?_ (by decide) (by decide))
  refine PyProof.Rows.callWith_type1 ?_ he rfl
  rw [he]
  show wpAny _ _ (spliced ((false, eval (.Call (.Name "sets_of" p2) [e1, e2] [] pos2) X.env) :: backTo pos (starEach [] X.env))) _ _ s
  refine Calls.spliced_cons ?_
  refine wpAny_Call_Name_kw (ld_glob I hgs T.setsOf.gl ?_ (by decide))
  refine PySem.W.callWith_K (h₀ := X.base) I.ok.mod.kin T.setsOf.fn.kp (thn (ha.run pos2 pins s σ H _ I hq) fun us s1 ⟨vs, H1, I1, r, q⟩ => ⟨I1.kIn, ?_⟩) he2 hpl2
  obtain ⟨m, k, rfl, hm, hk, hx, q⟩ := q
  cases r with
  | cons r1 r' =>
    cases r' with
    | cons r2 r'' =>
      cases r''
      obtain ⟨t1, rfl⟩ := r1
      obtain ⟨t2, rfl⟩ := r2
      show wpAny _ _ (call (.ref (ad "sets_of")) [.int (m : Nat) t1, .int (k : Nat) t2]) _ _ _
      have hdp := hr.dp
      refine wpAny_call (codeAny_mono (so_all T I1.ok.mod k (by omega) X.A s1 m t1 t2 hm hr.hd (by omega) I1.bk I1.bare) fun rr s2 h2 => ?_)
      obtain ⟨a, rfl, h3, h4, h5, h6, h7, h8⟩ := h2
      refine Calls.spliced_nil ?_
      refine call_list_sets (base := X.base) (k := k) (sc := s1) hr.hd (by omega) I1.ok.mod.nolimit h7 (fun b o e => Heap.lt_size e) I1.bk hx h3 h4 h5 h8 fun s' S hS fl => ?_
      obtain ⟨f1, f2, f3, as, acc, c, g1, g2, g3, g4⟩ := fl
      have hal : as.length = (combs k m).length := by omega
      have fresh : ∀ b, s1.heap.objs.size ≤ b → H1 b = none := fun b hb => I1.hok.fresh hb
      have hHS : H1 S = none := fresh S hS
      -- what is tracked
      have tS : trkS H1 S as (combs k m) S = some (.lst (as.map V.ref)) := if_pos rfl
      have tA : ∀ (i : Nat) (b : Addr) (r : List Nat), as[i]? = some b → (combs k m)[i]? = some r → trkS H1 S as (combs k m) b = some (.lst (natV r)) := fun i b r hb hr' => by
        obtain ⟨n1, n2, r', n3, its, cc, n4, n5⟩ := g4 i b hb
        rw [hr'] at n3
        cases n3
        have hex : ∃ (i : Nat) (r : List Nat), as[i]? = some b ∧ (combs k m)[i]? = some r := ⟨i, r, hb, hr'⟩
        unfold trkS
        rw [if_neg n1, dif_pos hex]
        obtain ⟨y1, y2⟩ := hex.choose_spec.choose_spec
        obtain ⟨_, _, r2, y3, its2, cc2, y4, y5⟩ := g4 _ b y1
        rw [y2] at y3
        cases y3
        rw [n4] at y4
        cases y4
        rw [vals_nat_uniq y5 n5]
      have tO : ∀ b o, H1 b = some o → trkS H1 S as (combs k m) b = some o := fun b o hb => by
        have hn : ¬ s1.heap.objs.size ≤ b := fun z => by rw [fresh b z] at hb; cases hb
        unfold trkS
        rw [if_neg (fun z => by rw [z, hHS] at hb; cases hb), dif_neg (fun ⟨i, r, z1, z2⟩ => hn (g4 i b z1).2.1)]
        exact hb
      have tN : ∀ b, b < s1.heap.objs.size → H1 b = none → trkS H1 S as (combs k m) b = none := fun b hb hn => by
        unfold trkS
        rw [if_neg (fun z => by rw [z] at hb; exact absurd hS (Nat.not_le.mpr hb)), dif_neg (fun ⟨i, r, z1, z2⟩ => absurd (g4 i b z1).2.1 (Nat.not_le.mpr hb))]
        exact hn
      have inv : ∀ b o, trkS H1 S as (combs k m) b = some o → (b = S ∧ o = .lst (as.map V.ref)) ∨ (∃ (i : Nat) (r : List Nat), as[i]? = some b ∧ (combs k m)[i]? = some r ∧ o = .lst (natV r)) ∨ H1 b = some o := fun b o hb => by
        by_cases hbS : b = S
        · left
          rw [hbS, tS] at hb
          exact ⟨hbS, (Option.some.inj hb).symm⟩
        · right
          by_cases hex : ∃ (i : Nat) (r : List Nat), as[i]? = some b ∧ (combs k m)[i]? = some r
          · obtain ⟨i, r, z1, z2⟩ := hex
            rw [tA i b r z1 z2] at hb
            exact .inl ⟨i, r, z1, z2, (Option.some.inj hb).symm⟩
          · right
            unfold trkS at hb
            rw [if_neg hbS, dif_neg hex] at hb
            exact hb
      have hok : HOk X.prog X.w (trkS H1 S as (combs k m)) s'.heap := fun b o hb => by
        rcases inv b o hb with ⟨rfl, rfl⟩ | ⟨i, r, z1, z2, rfl⟩ | hb'
        · refine ⟨by rw [List.length_map, hal]; exact Nat.le_of_lt (small hx), acc.toList, c, ?_, by rw [g1]⟩
          rw [g2]
          have : ∀ l : List Addr, Vals (l.map V.ref) (l.map Value.ref) := fun l => by
            induction l with
            | nil => exact .nil
            | cons x l ih => exact .cons rfl ih
          exact this as
        · obtain ⟨_, _, r', n3, its, cc, n4, n5⟩ := g4 i b z1
          rw [z2] at n3
          cases n3
          have hlen := combs_len k m r (List.mem_of_getElem? z2)
          exact ⟨by rw [natV_len, hlen]; exact Nat.le_of_lt (small (by omega)), its.toList, cc, n5, by rw [n4]⟩
        · exact (I1.hok b o hb').stay (fun c' u _ e => f3 c' u e) (fun c' e => tO c' _ e) fun c' ys e => tO c' _ e
      refine ⟨.ref S, trkS H1 S as (combs k m), ?_, rfl, q _ S as (fun b o e => tO b o e) hHS tS ⟨hal, fun i r hr' => ?_⟩ fun b hb => ?_⟩
      · refine I1.call' (ch := []) f1 ⟨fun b o e n _ _ => f3 b o e, fun b o e n _ _ => ⟨o.slots, f3 b o e⟩, fun b o e n _ => tN b (Heap.lt_size e) n, fun b o e _ => ⟨o, f3 b o e⟩, fun b ys e => tO b _ e, fun b o u e => tO b _ e, fun b qs e => ⟨#[], by rw [tO b _ e]; simp⟩⟩ hok f2 fun b hb => by simp at hb
      · have hi : i < as.length := by rw [hal]; exact (List.getElem?_eq_some_iff.mp hr').1
        exact ⟨as[i], List.getElem?_eq_getElem hi, tA i _ r (List.getElem?_eq_getElem hi) hr'⟩
      · obtain ⟨i, hi, rfl⟩ := List.getElem_of_mem hb
        exact fresh _ (g4 i _ (List.getElem?_eq_getElem hi)).2.1
end
end Nl
set_option maxHeartbeats 4000000
namespace Nl
open PySem PySem.Spec PyProof.Rows L2
def coreStep (ts : List Tk) (tbl : List Int) (hor : Nat) (found : List (List Nat)) (ns : List Nat) : List (List Nat) := found
open Classical in
noncomputable def coStep (ts : List Tk) (tbl : List Int) (hor : Nat) (found : List (List Nat)) (ns : List Nat) : List (List Nat) := if trM (subT ts ns) tbl hor ≠ "holds" ∧ hpB ns found = false then found ++ [ns] else found
def allS (n : Nat) : Nat → List (List Nat)
  | 0 => []
  | i + 1 => allS n i ++ combs i n
noncomputable def coM (ts : List Tk) (tbl : List Int) (hor : Nat) (l : List (List Nat)) : List (List Nat) := l.foldl (coStep ts tbl hor) []
theorem coM_snoc {ts : List Tk} {tbl : List Int} {hor : Nat} {l : List (List Nat)} {ns : List Nat} : coM ts tbl hor (l ++ [ns]) = coStep ts tbl hor (coM ts tbl hor l) ns := by
  unfold coM
  rw [List.foldl_append]
  rfl
theorem coM_len {ts : List Tk} {tbl : List Int} {hor : Nat} : ∀ (l : List (List Nat)) (f : List (List Nat)), (l.foldl (coStep ts tbl hor) f).length ≤ f.length + l.length
  | [], f => by simp
  | ns :: l, f => by
    have := coM_len (ts := ts) (tbl := tbl) (hor := hor) l (coStep ts tbl hor f ns)
    rw [List.foldl_cons, List.length_cons]
    have h2 : (coStep ts tbl hor f ns).length ≤ f.length + 1 := by
      unfold coStep
      split
      · simp
      · omega
    omega
theorem combs_ok : ∀ (k m : Nat) (r : List Nat), r ∈ combs k m → r.Pairwise (· < ·) ∧ ∀ x ∈ r, x < m
  | 0, m, r, h => by
    have : r = [] := by simpa [combs] using h
    rw [this]
    exact ⟨.nil, fun x hx => by simp at hx⟩
  | k + 1, m, r, h => by
    have key : ∀ q, q ≤ m → r ∈ outsOf (combs k) m q → r.Pairwise (· < ·) ∧ ∀ x ∈ r, x < m := by
      intro q
      induction q with
      | zero => intro _ h; simp [outsOf] at h
      | succ q ih =>
        intro hq h
        rcases List.mem_append.mp (show r ∈ (combs k q).map _ ++ outsOf (combs k) m q from h) with h | h
        · obtain ⟨r', h1, rfl⟩ := List.mem_map.mp h
          obtain ⟨g1, g2⟩ := combs_ok k q r' h1
          refine ⟨List.pairwise_cons.mpr ⟨fun x hx => ?_, ?_⟩, fun x hx => ?_⟩
          · obtain ⟨y, hy, rfl⟩ := List.mem_map.mp hx
            omega
          · rw [List.pairwise_map]
            exact g1.imp fun h => by omega
          · rcases List.mem_cons.mp hx with rfl | hx
            · omega
            · obtain ⟨y, hy, rfl⟩ := List.mem_map.mp hx
              have := g2 y hy
              omega
        · exact ih (by omega) h
    exact key m (Nat.le_refl _) h
theorem Dis.sub {ts : List Tk} {ns : List Nat} (h : Dis ts) (hp : ns.Pairwise (· < ·)) (hn : ∀ n ∈ ns, n < ts.length) : Dis (subT ts ns) := fun i j t u hij ht hu => by
  obtain ⟨a, e1, e2⟩ := subT_get hn ht
  obtain ⟨b, e3, e4⟩ := subT_get hn hu
  obtain ⟨h1, h1'⟩ := List.getElem?_eq_some_iff.mp e1
  obtain ⟨h2, h2'⟩ := List.getElem?_eq_some_iff.mp e3
  have := List.pairwise_iff_getElem.mp hp i j h1 h2 hij
  rw [h1', h2'] at this
  exact h a b t u this e2 e4
theorem combs_small : ∀ m, m < 5 → ∀ k, k < 6 → (combs k m).length ≤ 100 := by decide
theorem UndE.same {ad : Str → Addr} {H H1 : Hp} {hor : Nat} {E : XK} (h : UndE ad H hor E) (s : Same H H1) : UndE ad H1 hor E := fun d H' hd s' e => h d H' (s.free hd) (s.trans s') e
section
variable {P : Program} {w : World} {K : PySem.W.Frag} {mg : Str → Option Value} {base : Heap} {ad : Str → Addr} {fd : Str → FuncData}
theorem scCores : FnScope ["system", "horizon", "found", "many", "size", "numbers", "safe"] ["system", "horizon"] (defScope sCores) := ⟨rfl, rfl, rfl, by decide +kernel, rfl, by decide +kernel, by decide +kernel⟩
def spCores (ad : Str → Addr) : Sp := fun vs H Q E => ∃ (a : Addr) (ts : List Tk) (tbl : List Int) (hor : Nat), vs = [.ref a, .int (hor : Nat)] ∧ SyAt ad H a ts tbl ∧ (∀ t ∈ ts, WfT t) ∧ ts.length ≤ 4 ∧ Dis ts ∧ WfB tbl ∧ hor ≤ 1000 ∧
  ((∃ ns ∈ allS ts.length (ts.length + 1), trM (subT ts ns) tbl hor = "undecided") → UndE ad H hor E) ∧
  ((∀ ns ∈ allS ts.length (ts.length + 1), trM (subT ts ns) tbl hor ≠ "undecided") → ∀ H' p as, Same H H' → H' p = some (.lst (as.map V.ref)) → RowN H' as (coM ts tbl hor (allS ts.length (ts.length + 1))) → Q (.ref p) H')
theorem T_cores (T : Tx K mg ad fd) : KBn K (fd "cores") ["system", "horizon"] 1 ["horizon"] (fun us ws => us ++ ws) (fun vs zs => vs ++ zs) := kbn_of T.cores.fn 1 fun _ _ _ _ _ _ us ws h1 h2 => match us, ws, h1, h2 with | [_], [_], _, _ => rfl
theorem RowN.snoc {H : Hp} {as : List Addr} {rs : List (List Nat)} {p : Addr} {r : List Nat} (h : RowN H as rs) (hp : H p = some (.lst (natV r))) : RowN H (as ++ [p]) (rs ++ [r]) := by
  refine ⟨by simp [h.1], fun i x e => ?_⟩
  by_cases hi : i < rs.length
  · rw [List.getElem?_append_left hi] at e
    obtain ⟨q, h1, h2⟩ := h.2 i x e
    exact ⟨q, by rw [List.getElem?_append_left (by rw [h.1]; exact hi)]; exact h1, h2⟩
  · have hl := (List.getElem?_eq_some_iff.mp e).1
    rw [List.length_append, List.length_singleton] at hl
    have hi' : i = rs.length := by omega
    subst hi'
    rw [List.getElem?_append_right (Nat.le_refl _), Nat.sub_self] at e
    cases e
    exact ⟨p, by rw [← h.1, List.getElem?_append_right (Nat.le_refl _), Nat.sub_self]; rfl, hp⟩
theorem RowN.keep {H H' : Hp} {as : List Addr} {rs : List (List Nat)} {q : Addr} (h : RowN H as rs) (hq : ∀ p ∈ as, p ≠ q) (k : ∀ b o, b ≠ q → H b = some o → H' b = some o) : RowN H' as rs :=
  ⟨h.1, fun i x e => let ⟨p, h1, h2⟩ := h.2 i x e; ⟨p, h1, k _ _ (hq p (List.mem_of_getElem? h1)) h2⟩⟩
theorem ok_cores (T : Tx K mg ad fd) (U : UT P K mg ad) : FnOk P w K mg base (L2.CX P w) 21 (ad "cores") (fd "cores") ["system", "horizon"] (spCores ad) := by
  refine T.cores.fn.okX scCores (fun vs H Q E h => ?_) (fun cdv A outer s H vs Q E hr h => ?_)
  · obtain ⟨a, ts, tbl, hor, rfl, _⟩ := h
    rfl
  · obtain ⟨a, ts, tbl, hor, rfl, hs, wf, hl, dis, wb, hh, qE, qQ⟩ := h
    refine ⟨_, pss_cons (ps_set (i := 2) scCores.nd rfl (.inl rfl) (pe_lst pa_nil))
      (pss_cons (ps_set (i := 3) scCores.nd rfl (.inl rfl) (pe_callB call_len_seq (by rfl) T.b_len PySem.boot_len (pa_cons (pe_fld (pv 0) rfl) pa_nil)))
      (pss_cons (ps_for (passes_of rfl) rfl (pi_range1 (by rfl) T.b_range (pa_cons (pe_op op_add (pv 3) pe_int) pa_nil)) (pg_name (i := 4) scCores.nd rfl (.inl rfl))
        (pss_one (ps_for (passes_of rfl) rfl (pi_list (pe_sets T hr (pa_cons (pv 3) (pa_cons (pv 4) pa_nil)) (by rfl) (by rfl))) (pg_name (i := 5) scCores.nd rfl (.inl rfl))
          (pss_cons (ps_set (i := 6) scCores.nd rfl (.inl rfl) (pe_callN (E := E) (ok_cl T U) (hr.mono (by decide)) (by rfl) T.canLive.gl T.canLive.fn.kp (T_cl T) (passes_call (takes_of rfl rfl rfl rfl) (fun _ _ _ _ h => h)) (pa_cons (pv 0) (pa_cons (pv 5) pa_nil)) (pk_cons (pv 1) pk_nil)))
          (pss_one (ps_if (pw_and (pt_not (pt_val (pv 6))) (pw_and1 (pt_not (pt_val (pe_call (ok_hp T) (hr.mono (by decide)) (by rfl) T.hasPart.gl T.hasPart.fn.kp (T_hp T) .nil pass0 (pa_cons (pv 5) (pa_cons (pv 2) pa_nil))))))).pt
            (pss_one (ps_expr (pe_bm PySem.F.plainAttrs_list PySem.F.slot_list_append PySem.F.type_list_append mt_append (pv 2) (pa_cons (pv 5) pa_nil)))) pss_nil))))))
      (pss_one (ps_ret (pv 2))))), ?_⟩
    obtain ⟨dx, ta, tb, tas, O⟩ := id hs
    have hta : (tas.map V.ref).length = ts.length := by rw [List.length_map, O.len]
    refine ⟨(by show 0 ≤ sizeLine; decide), fun f hf => ?_⟩
    have s0 : Same H (upd H f (.lst [])) := Same.up hf
    have O0 := O.same s0
    refine ⟨_, rfl, a, _, dx, _, _, rfl, O0.ob, T.systemInit.cl, T.nSystem_tasks, rfl, ta, _, rfl, .inr (SqT.of O0.to), ?_⟩
    rw [hta]
    generalize hn : ts.length = n at *
    refine ⟨_, rfl, _, _, rfl, rfl, _, rfl, by omega, by omega, for_range (lo := 0) (n := (((n : Nat) : Int) + 1).toNat) (fun i σ H' => ∃ v4 v5 v6 as, Same H H' ∧ H' f = some (.lst (as.map V.ref)) ∧ RowN H' as (coM ts tbl hor (allS n i)) ∧ (∀ p ∈ as, p ≠ f) ∧ (∀ ns ∈ allS n i, trM (subT ts ns) tbl hor ≠ "undecided") ∧ (allS n i).length ≤ 100 * i ∧ σ = [some (.ref a), some (.int (hor : Nat)), some (.ref f), some (.int (n : Nat)), v4, v5, v6])
      ⟨none, none, none, [], s0, upd_same, ⟨rfl, fun i r e => by simp [coM, allS] at e⟩, fun p hp => by simp at hp, fun ns hns => by simp [allS] at hns, by simp [allS], rfl⟩ ?_ ?_⟩
    · rintro i σ H1 hi ⟨v4, v5, v6, as, s1, hfo, hrs, has, hdec, hal, rfl⟩
      have hin : i ≤ n := by omega
      have e0 : V.int (0 + (i : Nat)) = V.int ((i : Nat) : Int) := by rw [Int.zero_add]
      have hcl := combs_small n (by omega) i (by omega)
      refine ⟨_, rfl, _, rfl, n, i, by rw [e0], by omega, by omega, by omega, fun H2 pl bs s2 hpl hplo hrs2 hfr => ?_⟩
      have s02 := s1.trans s2
      have hbl : (bs.map V.ref).length = (combs i n).length := by rw [List.length_map, hrs2.1]
      have hpf : pl ≠ f := (ne_of_none hfo hpl).symm
      refine ⟨pl, rfl, ⟨_, SqL.of hplo⟩, for_it (walk_list (a := pl) (xs := bs.map V.ref)) (fun j σ H' => ∃ v5 v6 as, Same H H' ∧ H' pl = some (.lst (bs.map V.ref)) ∧ RowN H' bs (combs i n) ∧ H' f = some (.lst (as.map V.ref)) ∧ RowN H' as (coM ts tbl hor (allS n i ++ (combs i n).take j)) ∧ (∀ p ∈ as, p ≠ f) ∧ (∀ p ∈ bs, p ≠ f) ∧ (∀ ns ∈ allS n i ++ (combs i n).take j, trM (subT ts ns) tbl hor ≠ "undecided") ∧ σ = [some (.ref a), some (.int (hor : Nat)), some (.ref f), some (.int (n : Nat)), some (.int (0 + (i : Nat))), v5, v6])
        ⟨v5, v6, as, s02, hplo, hrs2, s2 _ _ hfo, by rw [List.take_zero, List.append_nil]; exact hrs.same s2, has, fun p hp => ?_, by rw [List.take_zero, List.append_nil]; exact hdec, rfl⟩ (fun j σ H' _ ⟨_, _, _, _, h', _⟩ => SqL.of h') ?_ ?_⟩
      · exact (ne_of_none hfo (hfr p hp)).symm
      · rintro j v σ H3 H4 hj ⟨v5', v6', as', s3, hpl3, hrs3, hf3, hco3, has', hbf, hdec3, rfl⟩ ⟨rfl, ev⟩
        obtain ⟨u, ns, rfl, hu, hns, huo⟩ := hrs3.at ev
        have hnm := List.mem_of_getElem? hns
        obtain ⟨c1, c2⟩ := combs_ok i n ns hnm
        have c3 := combs_len i n ns hnm
        have c2' : ∀ x ∈ ns, x < ts.length := by rw [hn]; exact c2
        have hmemS : ∀ i', i < i' → ns ∈ allS n i' := by
          intro i'
          induction i' with
          | zero => intro h; omega
          | succ i' ih =>
            intro h
            by_cases e : i = i'
            · subst e
              exact List.mem_append_right _ hnm
            · exact List.mem_append_left _ (ih (by omega))
        refine ⟨_, rfl, _, rfl, _, rfl, rfl, rfl, a, u, ts, tbl, ns, hor, rfl, hs.same s3, wf, huo, c2', by omega, dis.sub c1 c2', wb, hh, fun hu' => (qE ⟨ns, hmemS _ (by omega), hu'⟩).same s3, fun hnu H5 s5 => ?_⟩
        have s35 := s3.trans s5
        have hf5 := s5 _ _ hf3
        have htk : (combs i n).take (j + 1) = (combs i n).take j ++ [ns] := by rw [List.take_add_one, hns]; rfl
        have hdec5 : ∀ ns' ∈ allS n i ++ (combs i n).take (j + 1), trM (subT ts ns') tbl hor ≠ "undecided" := fun ns' h' => by
          rw [htk, ← List.append_assoc] at h'
          rcases List.mem_append.mp h' with h' | h'
          · exact hdec3 ns' h'
          · rw [List.mem_singleton.mp h']; exact hnu
        have hco : coM ts tbl hor (allS n i ++ (combs i n).take (j + 1)) = coStep ts tbl hor (coM ts tbl hor (allS n i ++ (combs i n).take j)) ns := by rw [htk, ← List.append_assoc, coM_snoc]
        have hlen5 : (coM ts tbl hor (allS n i ++ (combs i n).take j)).length ≤ 1000 := by
          have h1 := coM_len (ts := ts) (tbl := tbl) (hor := hor) (allS n i ++ (combs i n).take j) []
          rw [List.length_append, List.length_take] at h1
          have : (coM ts tbl hor (allS n i ++ (combs i n).take j)).length ≤ 0 + ((allS n i).length + min j (combs i n).length) := h1
          omega
        refine ⟨_, rfl, _, rfl, ite2 (fun c => ?_) (fun c => ?_)⟩
        · have hnh : trM (subT ts ns) tbl hor ≠ "holds" := by simpa using c
          refine ⟨_, rfl, _, rfl, u, f, ns, as', _, rfl, s5 _ _ huo, hf5, hco3.same s5, _, rfl, ite2 (fun c' => ?_) (fun c' => ?_)⟩
          · have hnp : hpB ns (coM ts tbl hor (allS n i ++ (combs i n).take j)) = false := by simpa using c'
            have est : coStep ts tbl hor (coM ts tbl hor (allS n i ++ (combs i n).take j)) ns = coM ts tbl hor (allS n i ++ (combs i n).take j) ++ [ns] := if_pos ⟨hnh, hnp⟩
            refine ⟨_, rfl, .inl ⟨rfl, _, SqL.of hf5⟩, _, rfl, f, _, _, rfl, rfl, hf5, small (by rw [List.length_map, hco3.1]; omega), ?_⟩
            have hpn : pl ≠ f := hpf
            refine ⟨some (.ref u), _, as' ++ [u], Same.up2 s35 hf, by rw [upd_ne hpn]; exact s5 _ _ hpl3, (hrs3.same s5).keep hbf (fun b o hb e => by rw [upd_ne hb]; exact e), by rw [upd_same, List.map_append]; rfl, ?_, fun p hp => ?_, hbf, hdec5, rfl⟩
            · rw [hco, est]
              refine RowN.snoc ((hco3.same s5).keep has' fun b o hb e => by rw [upd_ne hb]; exact e) ?_
              rw [upd_ne (hbf u (List.mem_of_getElem? hu))]
              exact s5 _ _ huo
            · rcases List.mem_append.mp hp with hp | hp
              · exact has' p hp
              · rw [List.mem_singleton.mp hp]; exact hbf u (List.mem_of_getElem? hu)
          · have hnp : hpB ns (coM ts tbl hor (allS n i ++ (combs i n).take j)) = true := by simpa using c'
            have est : coStep ts tbl hor (coM ts tbl hor (allS n i ++ (combs i n).take j)) ns = coM ts tbl hor (allS n i ++ (combs i n).take j) := if_neg (fun z => by rw [hnp] at z; exact absurd z.2 (by decide))
            refine ⟨some (.ref u), _, as', s35, s5 _ _ hpl3, hrs3.same s5, hf5, by rw [hco, est]; exact hco3.same s5, has', hbf, hdec5, rfl⟩
        · have hh' : trM (subT ts ns) tbl hor = "holds" := by simpa using c
          have est : coStep ts tbl hor (coM ts tbl hor (allS n i ++ (combs i n).take j)) ns = coM ts tbl hor (allS n i ++ (combs i n).take j) := if_neg (fun z => z.1 hh')
          refine ⟨some (.ref u), _, as', s35, s5 _ _ hpl3, hrs3.same s5, hf5, by rw [hco, est]; exact hco3.same s5, has', hbf, hdec5, rfl⟩
      · rintro σ H3 ⟨v5', v6', as', s3, hpl3, hrs3, hf3, hco3, has', hbf, hdec3, rfl⟩
        rw [hbl, List.take_length] at hco3 hdec3
        refine ⟨_, _, _, as', s3, hf3, hco3, has', hdec3, ?_, rfl⟩
        show (allS n i ++ combs i n).length ≤ _
        rw [List.length_append]
        omega
    · rintro σ H1 ⟨v4, v5, v6, as, s1, hfo, hrs, has, hdec, hal, rfl⟩
      have en : (((n : Nat) : Int) + 1).toNat = n + 1 := by omega
      rw [en] at hrs hdec
      exact ⟨_, rfl, qQ hdec H1 f as s1 hfo hrs⟩
end
end Nl
set_option maxHeartbeats 4000000
namespace L2
open PySem PySem.Spec PyProof.Rows
/-- a text, so many times -/
def repS (z : Str) (n : Int) : Str := if n < 1 then Str.empty else if (n == 1 || z.length == 0) = true then z else ⟨(List.replicate n.toNat z.cps).foldl (· ++ ·) #[]⟩
theorem foldl_size {α : Type} (x : Array α) : ∀ (n : Nat) (a : Array α), ((List.replicate n x).foldl (· ++ ·) a).size = a.size + n * x.size
  | 0, a => by simp
  | n + 1, a => by
    rw [List.replicate_succ, List.foldl_cons, foldl_size x n, Array.size_append, Nat.succ_mul]
    omega
theorem op_mulS {X : Cx} : OpR X (binaryOp .Mult) (fun x y H Q => ∃ z n, x = .str z ∧ y = .int n ∧ 0 ≤ n ∧ n ≤ 10 ∧ z.length ≤ 10 ∧ Q (.str (repS z n)) H) := by
  intro pins s σ H x y v u Q I rx ry h
  obtain ⟨z, n, rfl, rfl, h1, h2, h3, q⟩ := h
  obtain ⟨t, rfl⟩ := rx
  obtain ⟨t', rfl⟩ := ry
  have hs : (sizeLine : Nat) > 1000 := by decide
  refine PySem.P.mul_str (by
    rw [decide_eq_false (by omega), decide_eq_false (by omega)]; rfl) (fun a _ => ?_) (fun a _ => ?_) ?_
  · have : n = 1 ∨ n = 2 ∨ n = 3 ∨ n = 4 ∨ n = 5 ∨ n = 6 ∨ n = 7 ∨ n = 8 ∨ n = 9 ∨ n = 10 := by omega
    rcases this with rfl | rfl | rfl | rfl | rfl | rfl | rfl | rfl | rfl | rfl <;> omega
  · show decide (z.length * n.toNat > sizeLine) = false
    rw [decide_eq_false]
    have : z.length * n.toNat ≤ 10 * 10 := Nat.mul_le_mul h3 (by omega)
    omega
  · unfold repS at q
    by_cases c : n < 1
    · rw [if_pos c] at q ⊢
      exact ⟨by decide, .str Str.empty, H, I.tok _, ⟨_, rfl⟩, q⟩
    · rw [if_neg c] at q ⊢
      by_cases c2 : (n == 1 || z.length == 0) = true
      · rw [if_pos c2] at q ⊢
        exact ⟨.str z, H, I, ⟨_, rfl⟩, q⟩
      · rw [if_neg c2] at q ⊢
        refine ⟨?_, .str _, H, I.tok _, ⟨_, rfl⟩, q⟩
        have : ((List.replicate n.toNat z.cps).foldl (· ++ ·) #[]).size ≤ 100 := by
          rw [foldl_size]
          have : n.toNat * z.cps.size ≤ 10 * 10 := Nat.mul_le_mul (by omega) h3
          simp
          omega
        exact Nat.le_trans this (by omega)
end L2
namespace Nl
open PySem PySem.Spec PyProof.Rows L2
/-- numbers below 1009 -/
def N9 (xs : List Int) : Prop := ∀ x ∈ xs, 0 ≤ x ∧ x < 1009
section
variable {P : Program} {w : World} {K : PySem.W.Frag} {mg : Str → Option Value} {base : Heap} {ad : Str → Addr} {fd : Str → FuncData}
/-! ### _law_row -/
theorem scLr : FnScope ["_law_cell", "_law_many", "_law_row_here", "_law_rest", "_law_k", "_law_mixed"] ["_law_cell", "_law_many"] (defScope sLawRow) := ⟨rfl, rfl, rfl, by decide +kernel, rfl, by decide +kernel, by decide +kernel⟩
def spLr : Sp := fun vs H Q _ => ∃ (c : Int) (m : Nat), vs = [.int c, .int (m : Nat)] ∧ m ≤ 1000 ∧ ∀ H' p xs, Same H H' → H p = none → H' p = some (.lst (xs.map V.int)) → xs.length = m → N9 xs → Q (.ref p) H'
theorem T_lr (T : Tx K mg ad fd) : Binds K (fd "_law_row") ["_law_cell", "_law_many"] [] := T.lawRow.fn.binds fun _ _ _ _ _ _ us hl => match us, hl with | [_, _], _ => rfl
theorem mod9 (x : Int) : 0 ≤ x % 1009 ∧ x % 1009 < 1009 := ⟨Int.emod_nonneg _ (by decide), Int.emod_lt_of_pos _ (by decide)⟩
theorem N9.snoc {xs : List Int} {x : Int} (h : N9 xs) (hx : 0 ≤ x ∧ x < 1009) : N9 (xs ++ [x]) := fun y hy => by
  rcases List.mem_append.mp hy with hy | hy
  · exact h y hy
  · rw [List.mem_singleton.mp hy]; exact hx
theorem ok_lr (T : Tx K mg ad fd) : FnOk P w K mg base CX0 1 (ad "_law_row") (fd "_law_row") ["_law_cell", "_law_many"] spLr := by
  refine T.lawRow.fn.ok scLr (fun vs H Q E h => ?_) (fun cdv A outer s H vs Q E hr h => ?_)
  · obtain ⟨c, m, rfl, _⟩ := h
    rfl
  · obtain ⟨c, m, rfl, hm, q⟩ := h
    refine ⟨_, pss_cons (ps_set (i := 2) scLr.nd rfl (.inl rfl) (pe_lst pa_nil))
      (pss_cons (ps_set (i := 3) scLr.nd rfl (.inl rfl) (pe_callB call_abs (by rfl) T.b_abs boot_abs (pa_cons (pv 0) pa_nil)))
      (pss_cons (ps_for PassesOwn.never rfl (pi_range1 (by rfl) T.b_range (pa_cons (pv 1) pa_nil)) (pg_name (i := 4) scLr.nd rfl (.inl rfl))
        (pss_one (ps_if (pt_cmpR op_ge (pe_callB call_abs (by rfl) T.b_abs boot_abs (pa_cons (pv 0) pa_nil)) (pe_op op_pow pe_int pe_int) (nomark _))
          (pss_cons (ps_expr (pe_bm PySem.F.plainAttrs_list PySem.F.slot_list_append PySem.F.type_list_append mt_append (pv 2) (pa_cons (pe_op op_mod (pe_callTy call_int1 (by rfl) T.b_int boot_int (pa_cons (pv 3) pa_nil)) pe_int) pa_nil)))
          (pss_one (ps_set (i := 3) scLr.nd rfl (.inl rfl) (pe_op op_fdiv (pv 3) pe_int))))
          (pss_cons (ps_set (i := 5) scLr.nd rfl (.inl rfl) (pe_op op_mod (pe_op op_add (pe_op op_mul (pv 3) pe_int) (pe_op op_mul (pe_op op_add (pv 4) pe_int) pe_int)) pe_int))
          (pss_cons (ps_set (i := 5) scLr.nd rfl (.inl rfl) (pe_op op_mod (pe_op op_add (pe_op op_mul (pv 5) pe_int) (pe_op op_mul pe_int (pe_op op_add (pv 4) pe_int))) pe_int))
          (pss_one (ps_expr (pe_bm PySem.F.plainAttrs_list PySem.F.slot_list_append PySem.F.type_list_append mt_append (pv 2) (pa_cons (pe_op op_mod (pe_callTy call_int1 (by rfl) T.b_int boot_int (pa_cons (pv 5) pa_nil)) pe_int) pa_nil)))))))))
      (pss_one (ps_ret (pv 2))))), ?_⟩
    refine ⟨(by show 0 ≤ sizeLine; decide), fun f hf => ?_⟩
    refine ⟨_, rfl, _, rfl, ?_⟩
    refine ⟨_, rfl, _, rfl, by omega, by omega, for_range (lo := 0) (n := ((m : Nat) : Int).toNat) (fun i σ H' => ∃ (r : Int) (v4 v5 : Option V) (xs : List Int), Same H H' ∧ H' f = some (.lst (xs.map V.int)) ∧ xs.length = i ∧ N9 xs ∧ σ = [some (.int c), some (.int (m : Nat)), some (.ref f), some (.int r), v4, v5])
      ⟨_, none, none, [], Same.up hf, upd_same, rfl, fun x hx => by simp at hx, rfl⟩ ?_ ?_⟩
    · rintro i σ H1 hi ⟨r, v4, v5, xs, s1, hfo, hxl, hx9, rfl⟩
      refine ⟨_, rfl, _, rfl, _, _, rfl, rfl, ⟨by decide, by decide, by decide⟩, _, _, rfl, rfl, _, rfl, ite2 (fun c1 => ?_) (fun c1 => ?_)⟩
      · refine ⟨_, rfl, .inl ⟨rfl, _, SqL.of hfo⟩, _, rfl, .inl ⟨_, rfl, _, _, rfl, rfl, (by show (0 : Int) < _; decide), f, _, _, rfl, rfl, hfo, small (by rw [List.length_map]; omega), ?_⟩⟩
        refine ⟨_, rfl, _, _, rfl, rfl, ⟨by decide, by decide⟩, ?_⟩
        refine ⟨_, _, _, xs ++ [r % 1009], Same.up2 s1 hf, by rw [upd_same, List.map_append]; rfl, by simp [hxl], hx9.snoc (mod9 r), rfl⟩
      · refine ⟨_, rfl, _, _, rfl, rfl, .inr ⟨by decide, by decide⟩, _, rfl, _, _, rfl, rfl, _, _, rfl, rfl, .inr ⟨by decide, by decide⟩, _, _, rfl, rfl, _, _, rfl, rfl, (by show (0 : Int) < _; decide), ?_⟩
        refine ⟨_, rfl, _, _, rfl, rfl, .inr ⟨by decide, by decide⟩, _, rfl, _, _, rfl, rfl, _, _, rfl, rfl, .inl ⟨by decide, by decide⟩, _, _, rfl, rfl, _, _, rfl, rfl, (by show (0 : Int) < _; decide), ?_⟩
        refine ⟨_, rfl, .inl ⟨rfl, _, SqL.of hfo⟩, _, rfl, .inl ⟨_, rfl, _, _, rfl, rfl, (by show (0 : Int) < _; decide), f, _, _, rfl, rfl, hfo, small (by rw [List.length_map]; omega), ?_⟩⟩
        refine ⟨_, _, _, xs ++ [_ % 1009], Same.up2 s1 hf, by rw [upd_same, List.map_append]; rfl, by simp [hxl], hx9.snoc (mod9 _), rfl⟩
    · rintro σ H1 ⟨r, v4, v5, xs, s1, hfo, hxl, hx9, rfl⟩
      exact ⟨_, rfl, q H1 f xs s1 hf hfo (by omega) hx9⟩
end
end Nl
set_option maxHeartbeats 4000000
namespace Nl
open PySem PySem.Spec PyProof.Rows L2
theorem cutV_upTo {xs : List V} {k : Nat} : cutV xs none (some (k : Int)) = xs.take (min k xs.length) := by
  unfold cutV
  rw [HT.sIx_none, HT.sIx_nat, List.drop_zero, Nat.sub_zero]
section
variable {P : Program} {w : World} {K : PySem.W.Frag} {mg : Str → Option Value} {base : Heap} {ad : Str → Addr} {fd : Str → FuncData}
/-! ### _law_numbers -/
theorem scLnu : FnScope ["_law_script", "_law_many", "_law_cells", "_law_each", "_law_numbers_here", "_law_cell", "_law_number"] ["_law_script", "_law_many"] (defScope sLawNumbers) := ⟨rfl, rfl, rfl, by decide +kernel, rfl, by decide +kernel, by decide +kernel⟩
def spLnu (K : PySem.W.Frag) : Sp := fun vs H Q _ => ∃ (a : Addr) (ks : List Int), vs = [.ref a, .int ((90 : Nat) : Int)] ∧ SqL K H a (ks.map V.int) ∧ (∀ H', Same H H' → SqL K H' a (ks.map V.int)) ∧ ∀ H' p xs, Same H H' → H p = none → H' p = some (.lst (xs.map V.int)) → xs.length = 90 → N9 xs → Q (.ref p) H'
theorem T_lnu (T : Tx K mg ad fd) : Binds K (fd "_law_numbers") ["_law_script", "_law_many"] [] := T.lawNumbers.fn.binds fun _ _ _ _ _ _ us hl => match us, hl with | [_, _], _ => rfl
theorem ok_lnu (T : Tx K mg ad fd) : FnOk P w K mg base CX0 2 (ad "_law_numbers") (fd "_law_numbers") ["_law_script", "_law_many"] (spLnu K) := by
  refine T.lawNumbers.fn.ok scLnu (fun vs H Q E h => ?_) (fun cdv A outer s H vs Q E hr h => ?_)
  · obtain ⟨a, ks, rfl, _⟩ := h
    rfl
  · obtain ⟨a, ks, rfl, ha, ha', q⟩ := h
    refine ⟨_, pss_cons (ps_set (i := 2) scLnu.nd rfl (.inl rfl) (pe_slice sl_list (pv 0) po_none (po_some pe_int)))
      (pss_cons (ps_set (i := 3) scLnu.nd rfl (.inl rfl) (pe_op op_add pe_int (pe_op op_fdiv (pv 1) (pe_callB (call_max2 rfl) (by rfl) T.b_max boot_max (pa_cons pe_int (pa_cons (pe_callB call_len_seq (by rfl) T.b_len PySem.boot_len (pa_cons (pv 2) pa_nil)) pa_nil))))))
      (pss_cons (ps_set (i := 4) scLnu.nd rfl (.inl rfl) (pe_lst pa_nil))
      (pss_cons (ps_for PassesOwn.never rfl (pi_list (pv 2)) (pg_name (i := 5) scLnu.nd rfl (.inl rfl))
        (pss_one (ps_for PassesOwn.never rfl (pi_list (pe_call (ok_lr T) hr (by rfl) T.lawRow.gl T.lawRow.fn.kp (T_lr T) .nil pass0 (pa_cons (pv 5) (pa_cons (pv 3) pa_nil)))) (pg_name (i := 6) scLnu.nd rfl (.inl rfl))
          (pss_one (ps_expr (pe_bm PySem.F.plainAttrs_list PySem.F.slot_list_append PySem.F.type_list_append mt_append (pv 4) (pa_cons (pv 6) pa_nil)))))))
      (pss_cons (ps_while PassesOwn.never (pt_cmpR op_lt (pe_callB call_len_seq (by rfl) T.b_len PySem.boot_len (pa_cons (pv 4) pa_nil)) (pv 1) (nomark _))
        (pss_one (ps_expr (pe_bm PySem.F.plainAttrs_list PySem.F.slot_list_append PySem.F.type_list_append mt_append (pv 4) (pa_cons pe_int pa_nil)))))
      (pss_one (ps_ret (pe_slice sl_list (pv 4) po_none (po_some (pv 1))))))))), ?_⟩
    refine ⟨_, rfl, _, rfl, a, _, rfl, ha, fun c hc => ?_⟩
    rw [show cutV (ks.map V.int) none (some 63) = (ks.take (min 63 (ks.map V.int).length)).map V.int by rw [List.map_take]; exact cutV_upTo (k := 63)]
    have hcl : (ks.take (min 63 (ks.map V.int).length)).length ≤ 63 := by rw [List.length_take]; omega
    generalize ks.take (min 63 (ks.map V.int).length) = cs at hcl
    have s1 : Same H (upd H c (.lst (cs.map V.int))) := Same.up hc
    refine ⟨_, rfl, _, rfl, c, _, rfl, .inl (SqL.of upd_same), _, _, rfl, _, _, rfl, rfl, ⟨?_, ?_⟩, _, _, rfl, rfl, ?_⟩
    · show (0 : Int) < if _ then _ else _
      split <;> omega
    · show (if _ then _ else _) < (1073741824 : Int)
      rw [List.length_map]
      split <;> omega
    have heach : ∃ e : Nat, e ≤ 91 ∧ (1 + ((90 : Nat) : Int) / (if (((cs.map V.int).length : Nat) : Int) > 1 then (((cs.map V.int).length : Nat) : Int) else 1)) = (e : Int) := by
      have h1 : 0 ≤ ((90 : Nat) : Int) / (if (((cs.map V.int).length : Nat) : Int) > 1 then (((cs.map V.int).length : Nat) : Int) else 1) := Int.ediv_nonneg (by decide) (by split <;> omega)
      have h2 : ((90 : Nat) : Int) / (if (((cs.map V.int).length : Nat) : Int) > 1 then (((cs.map V.int).length : Nat) : Int) else 1) ≤ 90 := Int.ediv_le_self _ (by decide)
      exact ⟨(1 + ((90 : Nat) : Int) / (if (((cs.map V.int).length : Nat) : Int) > 1 then (((cs.map V.int).length : Nat) : Int) else 1)).toNat, by omega, by omega⟩
    obtain ⟨e, he, hee⟩ := heach
    refine ⟨(by show 0 ≤ sizeLine; decide), fun f hf => ?_⟩
    have hfc : c ≠ f := ne_of_none upd_same hf
    have s2 := s1.trans (Same.up (o := .lst []) hf)
    have hfH : H f = none := s1.free hf
    refine ⟨_, rfl, c, rfl, ⟨_, SqL.of (by rw [upd_ne hfc, upd_same])⟩, for_it (walk_list (a := c) (xs := cs.map V.int)) (fun i σ H' => ∃ (v5 v6 : Option V) (xs : List Int), Same H H' ∧ H' c = some (.lst (cs.map V.int)) ∧ H' f = some (.lst (xs.map V.int)) ∧ xs.length ≤ 91 * i ∧ N9 xs ∧ σ = [some (.ref a), some (.int ((90 : Nat) : Int)), some (.ref c), some (.int (e : Nat)), some (.ref f), v5, v6])
      ⟨none, none, [], s2, by rw [upd_ne hfc, upd_same], upd_same, by simp, fun x hx => by simp at hx, by rw [← hee]; rfl⟩ (fun i σ H' _ ⟨_, _, _, _, h', _⟩ => SqL.of h') ?_ ?_⟩
    · rintro i v σ H1 H2 hi ⟨v5, v6, xs, s3, hco, hfo, hxl, hx9, rfl⟩ ⟨rfl, ev⟩
      rw [List.getElem?_map] at ev
      cases ec : cs[i]? with
      | none => rw [ec] at ev; cases ev
      | some x =>
        rw [ec] at ev
        cases ev
        have hi63 : i < 63 := by rw [List.length_map] at hi; omega
        refine ⟨_, rfl, _, rfl, x, e, rfl, by omega, fun H3 l ys s4 hl hlo hyl hy9 => ?_⟩
        have hlf : l ≠ f := (ne_of_none hfo hl).symm
        have hlc : l ≠ c := (ne_of_none hco hl).symm
        refine ⟨l, rfl, ⟨_, SqL.of hlo⟩, for_it (walk_list (a := l) (xs := ys.map V.int)) (fun j σ H' => ∃ (v6 : Option V) (zs : List Int), Same H H' ∧ H' l = some (.lst (ys.map V.int)) ∧ H' c = some (.lst (cs.map V.int)) ∧ H' f = some (.lst (zs.map V.int)) ∧ zs.length ≤ 91 * i + j ∧ N9 zs ∧ σ = [some (.ref a), some (.int ((90 : Nat) : Int)), some (.ref c), some (.int (e : Nat)), some (.ref f), some (.int x), v6])
          ⟨v6, xs, s3.trans s4, hlo, s4 _ _ hco, s4 _ _ hfo, by omega, hx9, rfl⟩ (fun j σ H' _ ⟨_, _, _, h', _⟩ => SqL.of h') ?_ ?_⟩
        · rintro j v σ H4 H5 hj ⟨v6', zs, s5, hlo5, hco5, hfo5, hzl, hz9, rfl⟩ ⟨rfl, ev'⟩
          rw [List.getElem?_map] at ev'
          cases ey : ys[j]? with
          | none => rw [ey] at ev'; cases ev'
          | some y =>
            rw [ey] at ev'
            cases ev'
            have hy := hy9 y (List.mem_of_getElem? ey)
            have hj91 : j < 91 := by rw [List.length_map] at hj; omega
            refine ⟨_, rfl, .inl ⟨rfl, _, SqL.of hfo5⟩, _, rfl, f, _, _, rfl, rfl, hfo5, small (by rw [List.length_map]; omega), ?_⟩
            exact ⟨some (.int y), zs ++ [y], Same.up2 s5 hfH, by rw [upd_ne hlf]; exact hlo5, by rw [upd_ne hfc]; exact hco5, by rw [upd_same, List.map_append]; rfl, by simp; omega, hz9.snoc hy, rfl⟩
        · rintro σ H4 ⟨v6', zs, s5, hlo5, hco5, hfo5, hzl, hz9, rfl⟩
          rw [List.length_map, hyl] at hzl
          exact ⟨_, _, zs, s5, hco5, hfo5, by omega, hz9, rfl⟩
    · rintro σ H1 ⟨v5, v6, xs, s3, hco, hfo, hxl, hx9, rfl⟩
      rw [List.length_map] at hxl
      have hxl' : xs.length ≤ 6000 := by omega
      obtain ⟨W, hW⟩ : ∃ W : Nat → L2.St → Hp → Prop, W = fun m' σ H' => ∃ (zs : List Int), Same H H' ∧ H' f = some (.lst (zs.map V.int)) ∧ zs.length ≤ 6000 ∧ N9 zs ∧ m' = 90 - zs.length ∧ σ = [some (.ref a), some (.int ((90 : Nat) : Int)), some (.ref c), some (.int (e : Nat)), some (.ref f), v5, v6] := ⟨_, rfl⟩
      refine ⟨W, ⟨90 - xs.length, by rw [hW]; exact ⟨xs, s3, hfo, hxl', hx9, rfl, rfl⟩⟩, ?_⟩
      rintro m' σ H2 hw
      rw [hW] at hw
      obtain ⟨zs, s4, hfo4, hzl, hz9, rfl, rfl⟩ := hw
      refine ⟨_, rfl, f, _, rfl, .inl (SqL.of hfo4), _, rfl, _, _, rfl, rfl, _, rfl, ite2 (fun c1 => ?_) (fun c1 => ?_)⟩
      · have c2 : (((zs.map V.int).length : Nat) : Int) < ((90 : Nat) : Int) := of_decide_eq_true c1
        rw [List.length_map] at c2
        refine ⟨fun σ' H' => ∃ m2, m2 < 90 - zs.length ∧ W m2 σ' H', fun σ' H' h => h, ?_⟩
        refine ⟨_, rfl, .inl ⟨rfl, _, SqL.of hfo4⟩, f, _, _, rfl, rfl, hfo4, small (by rw [List.length_map]; omega), ?_⟩
        refine ⟨90 - (zs.length + 1), by omega, ?_⟩
        rw [hW]
        exact ⟨zs ++ [0], Same.up2 s4 hfH, by rw [upd_same, List.map_append]; rfl, by simp; omega, hz9.snoc (by decide), by simp, rfl⟩
      · have c2 : ¬ (((zs.map V.int).length : Nat) : Int) < ((90 : Nat) : Int) := fun z => c1 (decide_eq_true z)
        rw [List.length_map] at c2
        refine ⟨_, rfl, _, rfl, _, rfl, f, _, rfl, SqL.of hfo4, fun p hp => ?_⟩
        rw [show cutV (zs.map V.int) none (some ((90 : Nat) : Int)) = (zs.take 90).map V.int by
          rw [cutV_upTo, List.length_map, Nat.min_eq_left (by omega), List.map_take]]
        exact q _ p (zs.take 90) (s4.trans (Same.up hp)) (s4.free hp) upd_same (by rw [List.length_take]; omega) fun x hx => hz9 x (List.mem_of_mem_take hx)
end
end Nl
set_option maxHeartbeats 4000000
namespace Nl
open PySem PySem.Spec PyProof.Rows L2
def sixC : Str := "kxzabc"
def nameF (c : Nat) (r : Int) (b : Bool) (k : Nat) : Str := if b = true then repS ⟨#[c]⟩ r ++ (toString ((k : Nat) : Int) : String) else (toString ((k : Nat) : Int) : String) ++ repS ⟨#[c]⟩ r
def nameM (n : Int) (k : Nat) : Str := nameF (sixC.cps.toList.getD (n % 6).toNat 0) (n / 6 % 3) (decide (V.int (n / 18 % 2) = V.int 0)) k
def nmOkB (x : Str) : Bool := decide (1 ≤ x.length) && decide (x.length ≤ 12) && x.cps.toList.all inNm
theorem NmOk.of {x : Str} (h : nmOkB x = true) : NmOk x := by
  unfold nmOkB at h
  rw [Bool.and_eq_true, Bool.and_eq_true] at h
  obtain ⟨⟨h1, h2⟩, h3⟩ := h
  refine ⟨of_decide_eq_true h1, of_decide_eq_true h2, fun i c hc => ?_⟩
  have hm : c ∈ x.cps.toList := by
    have : x.cps.toList[i]? = some c := by rw [← hc]; simp
    exact List.mem_of_getElem? this
  exact List.all_eq_true.mp h3 c hm
theorem nameF_ok : ∀ i, i < 6 → ∀ r, r < 3 → ∀ b : Bool, ∀ k, k < 4 → nmOkB (nameF (sixC.cps.toList.getD i 0) ((r : Nat) : Int) b k) = true := by decide +kernel
def dis4 (f : Nat → Str) : Bool := (List.range 4).all fun k => (List.range 4).all fun l => decide (k = l) || decide ((f k).cps.toList ≠ (f l).cps.toList)
theorem dis4_of {f : Nat → Str} (h : dis4 f = true) {k l : Nat} (hk : k < 4) (hl : l < 4) (hn : k ≠ l) : f k ≠ f l := fun z => by
  have h1 := List.all_eq_true.mp h k (List.mem_range.mpr hk)
  have h2 := List.all_eq_true.mp h1 l (List.mem_range.mpr hl)
  rw [decide_eq_false hn, Bool.false_or] at h2
  exact of_decide_eq_true h2 (by rw [z])
theorem nameF_dis : ∀ i, i < 6 → ∀ r, r < 3 → ∀ b : Bool, dis4 (fun k => nameF (sixC.cps.toList.getD i 0) ((r : Nat) : Int) b k) = true := by decide +kernel
theorem name_parts (n : Int) : ∃ i r : Nat, i < 6 ∧ r < 3 ∧ (n % 6).toNat = i ∧ n / 6 % 3 = (r : Int) := by
  have h1 : 0 ≤ n % 6 := Int.emod_nonneg _ (by decide)
  have h2 : n % 6 < 6 := Int.emod_lt_of_pos _ (by decide)
  have h3 : 0 ≤ n / 6 % 3 := Int.emod_nonneg _ (by decide)
  have h4 : n / 6 % 3 < 3 := Int.emod_lt_of_pos _ (by decide)
  exact ⟨(n % 6).toNat, (n / 6 % 3).toNat, by omega, by omega, rfl, by omega⟩
theorem nameM_ok (n : Int) {k : Nat} (h : k < 4) : NmOk (nameM n k) := by
  obtain ⟨i, r, h1, h2, h3, h4⟩ := name_parts n
  unfold nameM
  rw [h3, h4]
  exact NmOk.of (nameF_ok i h1 r h2 _ k h)
theorem nameM_dis (n : Int) {k l : Nat} (h : k < 4) (h' : l < 4) (hn : k ≠ l) : nameM n k ≠ nameM n l := by
  obtain ⟨i, r, h1, h2, h3, h4⟩ := name_parts n
  unfold nameM
  rw [h3, h4]
  exact dis4_of (nameF_dis i h1 r h2 _) h h' hn
section
variable {P : Program} {w : World} {K : PySem.W.Frag} {mg : Str → Option Value} {base : Heap} {ad : Str → Addr} {fd : Str → FuncData}
/-! ### _law_name -/
theorem scLn : FnScope ["_law_number", "_law_k", "_law_text"] ["_law_number", "_law_k"] (defScope sLawName) := ⟨rfl, rfl, rfl, by decide +kernel, rfl, by decide +kernel, by decide +kernel⟩
def spLn : Sp := fun vs H Q _ => ∃ (n : Int) (k : Nat), vs = [.int n, .int (k : Nat)] ∧ 0 ≤ n ∧ n < 1009 ∧ k < 4 ∧ Q (.str (nameM n k)) H
theorem T_ln (T : Tx K mg ad fd) : Binds K (fd "_law_name") ["_law_number", "_law_k"] [] := T.lawName.fn.binds fun _ _ _ _ _ _ us hl => match us, hl with | [_, _], _ => rfl
theorem len_all : ∀ i, i < 6 → ∀ r, r < 3 → ∀ k, k < 4 → (repS ⟨#[sixC.cps.toList.getD i 0]⟩ ((r : Nat) : Int)).length + (((toString ((k : Nat) : Int) : String) : Str)).length ≤ 100 := by decide +kernel
theorem log_small : ∀ k, k < 4 → (((k : Nat) : Int)).natAbs.log2 < 1920 := by decide
theorem ok_ln (T : Tx K mg ad fd) : FnOk P w K mg base CX0 1 (ad "_law_name") (fd "_law_name") ["_law_number", "_law_k"] spLn := by
  refine T.lawName.fn.ok scLn (fun vs H Q E h => ?_) (fun cdv A outer s H vs Q E hr h => ?_)
  · obtain ⟨n, k, rfl, _⟩ := h
    rfl
  · obtain ⟨n, k, rfl, hn, hn2, hk, q⟩ := h
    refine ⟨_, pss_cons (ps_set (i := 2) scLn.nd rfl (.inl rfl) (pe_op op_mulS (pe_ix ix_str pe_str (pe_op op_mod (pe_callTy call_int1 (by rfl) T.b_int boot_int (pa_cons (pv 0) pa_nil)) pe_int) (fun _ _ => rfl)) (pe_op op_mod (pe_op op_fdiv (pv 0) pe_int) pe_int)))
      (pss_cons (ps_if (pt_cmpR op_eq (pe_op op_mod (pe_op op_fdiv (pv 0) pe_int) pe_int) pe_int (nomark _)) (pss_one (ps_ret (pe_op op_add_str (pv 2) (pe_callTy call_str_int (by rfl) T.b_str boot_str (pa_cons (pv 1) pa_nil))))) pss_nil)
      (pss_one (ps_ret (pe_op op_add_str (pe_callTy call_str_int (by rfl) T.b_str boot_str (pa_cons (pv 1) pa_nil)) (pv 2))))), ?_⟩
    obtain ⟨i, r, h1, h2, h3, h4⟩ := name_parts n
    have h6 : 0 ≤ n % 6 := Int.emod_nonneg _ (by decide)
    have hc : sixC.cps.toList[(n % 6).toNat]? = some (sixC.cps.toList.getD (n % 6).toNat 0) := by
      rw [h3]
      have : ∀ i, i < 6 → sixC.cps.toList[i]? = some (sixC.cps.toList.getD i 0) := by decide
      exact this i h1
    have hl := len_all i h1 r h2 k hk
    have hsl : (100 : Nat) ≤ sizeLine := by decide
    refine ⟨_, rfl, .inl ⟨_, rfl, _, _, rfl, rfl, (by show (0 : Int) < _; decide), ?_⟩⟩
    refine ⟨sixC, n % 6, sixC.cps.toList.getD (n % 6).toNat 0, rfl, rfl, (by decide), (by have := atI_nat hc; rw [show (((n % 6).toNat : Nat) : Int) = n % 6 by omega] at this; exact this), ?_⟩
    refine ⟨_, rfl, _, _, rfl, rfl, ⟨by decide, by decide⟩, _, _, rfl, rfl, (by show (0 : Int) < _; decide), ?_⟩
    have q0 : 0 ≤ n / 6 % 3 := by omega
    have q1 : n / 6 % 3 ≤ 10 := by omega
    refine ⟨⟨#[sixC.cps.toList.getD (n % 6).toNat 0]⟩, n / 6 % 3, rfl, rfl, q0, q1, (by show 1 ≤ 10; decide), ?_⟩
    refine ⟨_, rfl, _, _, rfl, rfl, ⟨by decide, by decide⟩, _, _, rfl, rfl, (by show (0 : Int) < _; decide), rfl, _, rfl, ite2 (fun c => ?_) (fun c => ?_)⟩
    · have e : nameM n k = repS ⟨#[sixC.cps.toList.getD (n % 6).toNat 0]⟩ (n / 6 % 3) ++ ((toString ((k : Nat) : Int) : String) : Str) := if_pos c
      rw [e] at q
      refine ⟨_, rfl, _, rfl, _, rfl, log_small k hk, _, _, rfl, rfl, ?_, q⟩
      rw [h3, h4]
      exact Nat.le_trans hl hsl
    · have e : nameM n k = ((toString ((k : Nat) : Int) : String) : Str) ++ repS ⟨#[sixC.cps.toList.getD (n % 6).toNat 0]⟩ (n / 6 % 3) := if_neg c
      rw [e] at q
      refine ⟨_, rfl, _, rfl, log_small k hk, _, rfl, _, _, rfl, rfl, ?_, q⟩
      rw [h3, h4, Nat.add_comm]
      exact Nat.le_trans hl hsl
/-! ### _law_table -/
theorem scLt : FnScope ["_law_numbers_here", "_law_at", "_law_size", "_law_k"] ["_law_numbers_here", "_law_at"] (defScope sLawTable) := ⟨rfl, rfl, rfl, by decide +kernel, rfl, by decide +kernel, by decide +kernel⟩
def spLt : Sp := fun vs H Q _ => ∃ (p : Addr) (xs : List Int) (at_ : Nat), vs = [.ref p, .int (at_ : Nat)] ∧ H p = some (.lst (xs.map V.int)) ∧ xs.length = 90 ∧ at_ + 4 ≤ 90 ∧ N9 xs ∧ ∀ H' b tbl, Same H H' → H b = none → H' b = some (.lst (tbl.map V.int)) → WfB tbl → Q (.ref b) H'
theorem T_lt (T : Tx K mg ad fd) : Binds K (fd "_law_table") ["_law_numbers_here", "_law_at"] [] := T.lawTable.fn.binds fun _ _ _ _ _ _ us hl => match us, hl with | [_, _], _ => rfl
theorem get9 {xs : List Int} {j : Nat} (h : xs.length = 90) (hj : j < 90) : ∃ x, (xs.map V.int)[j]? = some (.int x) ∧ x ∈ xs := by
  refine ⟨xs[j]'(by omega), ?_, List.getElem_mem _⟩
  rw [List.getElem?_map, List.getElem?_eq_getElem (by omega)]; rfl
theorem ok_lt (T : Tx K mg ad fd) : FnOk P w K mg base CX0 1 (ad "_law_table") (fd "_law_table") ["_law_numbers_here", "_law_at"] spLt := by
  refine T.lawTable.fn.ok scLt (fun vs H Q E h => ?_) (fun cdv A outer s H vs Q E hr h => ?_)
  · obtain ⟨p, xs, at_, rfl, _⟩ := h
    rfl
  · obtain ⟨p, xs, at_, rfl, hp, hl, hat, h9, q⟩ := h
    refine ⟨_, pss_cons (ps_set (i := 2) scLt.nd rfl (.inl rfl) (pe_op op_add pe_int (pe_op op_mod (pe_callTy call_int1 (by rfl) T.b_int boot_int (pa_cons (pe_ix ix_list (pv 0) (pv 1) (fun _ _ => rfl)) pa_nil)) pe_int)))
      (pss_one (ps_ret (pe_lc (own := [("_law_k", 3)]) (g := gName 3) (tt := tYes) rfl scLt.nd (pi_range1 (by rfl) T.b_range (pa_cons (pv 2) pa_nil)) (blkOk_by (own := [("_law_k", 3)]) (N := ["_law_numbers_here", "_law_at", "_law_size", "_law_k"]) (sc := defScope sLawTable) (by decide +kernel)) (fun _ _ _ _ _ => pg_name (i := 3) scLt.nd rfl (Or.inl rfl)) (fun _ _ _ _ _ => pts_nil)
        (fun _ _ _ _ _ => pe_op op_mod (pe_callTy call_int1 (by rfl) T.b_int boot_int (pa_cons (pe_ix (ixL K) (pv 0) (pe_op op_add (pe_op op_add (pv 1) pe_int) (pv 3)) (fun _ _ => rfl)) pa_nil)) pe_int)))), ?_⟩
    obtain ⟨x0, e0, m0⟩ := get9 (j := at_) hl (by omega)
    have h0 := h9 x0 m0
    have g1 : 0 ≤ x0 % 3 := Int.emod_nonneg _ (by decide)
    have g2 : x0 % 3 < 3 := Int.emod_lt_of_pos _ (by decide)
    refine ⟨_, rfl, _, rfl, _, _, _, .int x0, rfl, rfl, SqL.of hp, atI_nat e0, .inl ⟨_, rfl, _, _, rfl, rfl, (by show (0 : Int) < _; decide), _, _, rfl, rfl, ?_⟩⟩
    refine ⟨_, rfl, _, rfl, by omega, by omega, fun D hD => lc_same (walk_range (lo := 0) (n := (1 + x0 % 3).toNat)) (fun i v H' => ∃ y, v = .int y ∧ 0 ≤ y ∧ y ≤ 3) (fun _ _ _ _ h _ => h) (by omega) hD (fun _ _ => trivial) ?_ ?_⟩
    · rintro i v H2 H3 acc Kc hi s2 hD2 ⟨rfl, rfl⟩ hc
      obtain ⟨y, ey, my⟩ := get9 (j := at_ + 1 + i) hl (by omega)
      have a1 : 0 ≤ y % 4 := Int.emod_nonneg _ (by decide)
      have a2 : y % 4 < 4 := Int.emod_lt_of_pos _ (by decide)
      refine ⟨rfl, _, rfl, _, rfl, _, _, rfl, rfl, _, rfl, _, _, rfl, rfl, _, _, _, .int y, rfl, rfl, SqL.of (s2 _ _ hp), at_of (j := at_ + 1 + i) (by omega) ey, .inl ⟨_, rfl, _, _, rfl, rfl, (by show (0 : Int) < _; decide), hc _ _ (Same.refl _) ⟨_, rfl, a1, by omega⟩⟩⟩
    · intro H1 ys s1 h1 h2 h3
      have : ∃ tbl : List Int, ys = tbl.map V.int ∧ ∀ c ∈ tbl, 0 ≤ c ∧ c ≤ 3 := by
        clear h1 h2
        induction ys with
        | nil => exact ⟨[], rfl, fun c hc => by simp at hc⟩
        | cons y ys ih =>
          obtain ⟨tbl, e, ht⟩ := ih fun i z hz => h3 (i + 1) z hz
          obtain ⟨c, e1, e2⟩ := h3 0 y rfl
          exact ⟨c :: tbl, by rw [e, e1]; rfl, fun d hd => by
            rcases List.mem_cons.mp hd with rfl | hd
            · exact e2
            · exact ht d hd⟩
      obtain ⟨tbl, rfl, ht⟩ := this
      rw [List.length_map] at h2
      exact q H1 D tbl s1 hD h1 ⟨by omega, by omega, ht⟩
end
end Nl
set_option maxHeartbeats 4000000
namespace Nl
open PySem PySem.Spec PyProof.Rows L2
structure KsW (ks : List Kd) : Prop where
  ne : 1 ≤ ks.length
  len : ks.length ≤ 2
  nm : ∀ k ∈ ks, NmOk k.1
  dis : ∀ (i j : Nat) (k l : Kd), i < j → ks[i]? = some k → ks[j]? = some l → k.1 ≠ l.1
  cost : ∀ k ∈ ks, 1 ≤ k.2.1 ∧ k.2.1 ≤ 4
  dead : ∀ k ∈ ks, 1 ≤ k.2.2 ∧ k.2.2 ≤ 9
structure WsW (ks : List Kd) (ws : List Wy) : Prop where
  len : ws.length ≤ 3
  src : ∀ w ∈ ws, w.1 ∈ ks.map fun k => k.1
  tgt : ∀ w ∈ ws, w.2.1 ∈ ks.map fun k => k.1
  dist : ∀ w ∈ ws, 1 ≤ w.2.2 ∧ w.2.2 ≤ 6
theorem KsW.ok {ks : List Kd} (h : KsW ks) : KsOk ks := ⟨h.ne, by have := h.len; omega, h.nm, h.dis, fun k hk => by have := h.cost k hk; omega, fun k hk => by have := h.dead k hk; omega⟩
theorem WsW.ok {ks : List Kd} {ws : List Wy} (h : WsW ks ws) : WsOk ks ws := ⟨by have := h.len; omega, h.src, h.tgt, fun k hk => by have := h.dist k hk; omega⟩
theorem wf_of {n : Str} {ks : List Kd} {ws : List Wy} (h : KsW ks) (h' : WsW ks ws) : WfT ⟨n, ks, ws⟩ :=
  ⟨h.ne, h.len, h'.len, h.cost, h.dead, fun w hw => by
    obtain ⟨k, h1, h2⟩ := List.mem_map.mp (h'.src w hw)
    exact ⟨k, h1, h2⟩, fun w hw => by
    obtain ⟨k, h1, h2⟩ := List.mem_map.mp (h'.tgt w hw)
    exact ⟨k, h1, h2⟩, h'.dist⟩
theorem LTups.keepL {α : Type} {f : α → List V} {H H' : Hp} {p q : Addr} {xs : List α} {ys : List V} (h : LTups f H p xs) (hq : H q = some (.lst ys)) (hpq : p ≠ q) (k : ∀ b o, b ≠ q → H b = some o → H' b = some o) : LTups f H' p xs := by
  obtain ⟨as, h1, h2⟩ := h
  exact ⟨as, k _ _ hpq h1, h2.keepL hq k⟩
section
variable {P : Program} {w : World} {K : PySem.W.Frag} {mg : Str → Option Value} {base : Heap} {ad : Str → Addr} {fd : Str → FuncData}
/-! ### _law_kinds -/
theorem scLk : FnScope ["_law_numbers_here", "_law_at", "_law_kinds_here", "_law_k", "_law_name_here"] ["_law_numbers_here", "_law_at"] (defScope sLawKinds) := ⟨rfl, rfl, rfl, by decide +kernel, rfl, by decide +kernel, by decide +kernel⟩
def spLk : Sp := fun vs H Q _ => ∃ (p : Addr) (xs : List Int) (at_ : Nat), vs = [.ref p, .int (at_ : Nat)] ∧ H p = some (.lst (xs.map V.int)) ∧ xs.length = 90 ∧ at_ + 7 ≤ 90 ∧ N9 xs ∧ ∀ H' b ks, Same H H' → H b = none → LTups kdV H' b ks → KsW ks → Q (.ref b) H'
theorem T_lk (T : Tx K mg ad fd) : Binds K (fd "_law_kinds") ["_law_numbers_here", "_law_at"] [] := T.lawKinds.fn.binds fun _ _ _ _ _ _ us hl => match us, hl with | [_, _], _ => rfl
theorem md (x : Int) {m : Int} (h : 0 < m) : 0 ≤ x % m ∧ x % m < m := ⟨Int.emod_nonneg _ (by omega), Int.emod_lt_of_pos _ h⟩
theorem ok_lk (T : Tx K mg ad fd) : FnOk P w K mg base CX0 2 (ad "_law_kinds") (fd "_law_kinds") ["_law_numbers_here", "_law_at"] spLk := by
  refine T.lawKinds.fn.ok scLk (fun vs H Q E h => ?_) (fun cdv A outer s H vs Q E hr h => ?_)
  · obtain ⟨p, xs, at_, rfl, _⟩ := h
    rfl
  · obtain ⟨p, xs, at_, rfl, hp, hl, hat, h9, q⟩ := h
    refine ⟨_, pss_cons (ps_set (i := 2) scLk.nd rfl (.inl rfl) (pe_lst pa_nil))
      (pss_cons (ps_for PassesOwn.never rfl (pi_range1 (by rfl) T.b_range (pa_cons (pe_op op_add pe_int (pe_op op_mod (pe_callTy call_int1 (by rfl) T.b_int boot_int (pa_cons (pe_ix ix_list (pv 0) (pv 1) (fun _ _ => rfl)) pa_nil)) pe_int)) pa_nil)) (pg_name (i := 3) scLk.nd rfl (.inl rfl))
        (pss_cons (ps_set (i := 4) scLk.nd rfl (.inl rfl) (pe_call (ok_ln T) hr (by rfl) T.lawName.gl T.lawName.fn.kp (T_ln T) .nil pass0 (pa_cons (pe_ix ix_list (pv 0) (pe_op op_add (pv 1) pe_int) (fun _ _ => rfl)) (pa_cons (pv 3) pa_nil))))
        (pss_one (ps_expr (pe_bm PySem.F.plainAttrs_list PySem.F.slot_list_append PySem.F.type_list_append mt_append (pv 2) (pa_cons (pe_tup (pa_cons (pv 4) (pa_cons
          (pe_op op_add pe_int (pe_op op_mod (pe_callTy call_int1 (by rfl) T.b_int boot_int (pa_cons (pe_ix ix_list (pv 0) (pe_op op_add (pe_op op_add (pv 1) pe_int) (pe_op op_mul pe_int (pv 3))) (fun _ _ => rfl)) pa_nil)) pe_int)) (pa_cons
          (pe_op op_add pe_int (pe_op op_mod (pe_callTy call_int1 (by rfl) T.b_int boot_int (pa_cons (pe_ix ix_list (pv 0) (pe_op op_add (pe_op op_add (pv 1) pe_int) (pe_op op_mul pe_int (pv 3))) (fun _ _ => rfl)) pa_nil)) pe_int)) pa_nil)))) pa_nil))))))
      (pss_one (ps_ret (pv 2)))), ?_⟩
    refine ⟨(by show 0 ≤ sizeLine; decide), fun f hf => ?_⟩
    have s0 : Same H (upd H f (.lst [])) := Same.up hf
    obtain ⟨x0, e0, m0⟩ := get9 (j := at_) hl (by omega)
    obtain ⟨x1, e1, m1⟩ := get9 (j := at_ + 1) hl (by omega)
    have g0 := md x0 (show (0 : Int) < 2 by decide)
    have h1 := h9 x1 m1
    refine ⟨_, rfl, _, rfl, _, _, _, .int x0, rfl, rfl, SqL.of (s0 _ _ hp), atI_nat e0, .inl ⟨_, rfl, _, _, rfl, rfl, (by show (0 : Int) < _; decide), _, _, rfl, rfl, ?_⟩⟩
    refine ⟨_, rfl, by omega, by omega, for_range (lo := 0) (n := (1 + x0 % 2).toNat) (fun i σ H' => ∃ (v3 v4 : Option V) (as : List Addr) (ks : List Kd), Same H H' ∧ H' f = some (.lst (as.map V.ref)) ∧ Tups kdV H' as ks ∧ ks.length = i ∧ (∀ (j : Nat) (k : Kd), ks[j]? = some k → k.1 = nameM x1 j) ∧ (∀ k ∈ ks, 1 ≤ k.2.1 ∧ k.2.1 ≤ 4) ∧ (∀ k ∈ ks, 1 ≤ k.2.2 ∧ k.2.2 ≤ 9) ∧ σ = [some (.ref p), some (.int (at_ : Nat)), some (.ref f), v3, v4])
      ⟨none, none, [], [], s0, upd_same, ⟨rfl, fun i x e => by simp at e⟩, rfl, fun j k e => by simp at e, fun k hk => by simp at hk, fun k hk => by simp at hk, rfl⟩ ?_ ?_⟩
    · rintro i σ H1 hi ⟨v3, v4, as, ks, s1, hfo, hts, hkl, hnm, hco, hde, rfl⟩
      have hi2 : i < 2 := by omega
      have ei : V.int (0 + (i : Nat)) = V.int ((i : Nat) : Int) := by rw [Int.zero_add]
      obtain ⟨y2, ey2, my2⟩ := get9 (j := at_ + 2 + 2 * i) hl (by omega)
      obtain ⟨y3, ey3, my3⟩ := get9 (j := at_ + 3 + 2 * i) hl (by omega)
      have g2 := md y2 (show (0 : Int) < 4 by decide)
      have g3 := md y3 (show (0 : Int) < 9 by decide)
      have hp1 := s1 _ _ hp
      refine ⟨_, rfl, _, rfl, _, _, rfl, rfl, _, _, _, .int x1, rfl, rfl, SqL.of hp1, at_of (j := at_ + 1) (by omega) e1, _, rfl, x1, i, by rw [ei]; rfl, h1.1, h1.2, by omega, ?_⟩
      refine ⟨_, rfl, .inl ⟨rfl, _, SqL.of hfo⟩, _, rfl, _, rfl, _, rfl, _, _, rfl, rfl, _, rfl, _, _, rfl, rfl, .inl ⟨by decide, by decide⟩, _, _, rfl, rfl, _, _, _, .int y2, rfl, rfl, SqL.of hp1, at_of (j := at_ + 2 + 2 * i) (by omega) ey2, .inl ⟨_, rfl, _, _, rfl, rfl, (by show (0 : Int) < _; decide), _, _, rfl, rfl,
        _, rfl, _, rfl, _, _, rfl, rfl, _, rfl, _, _, rfl, rfl, .inl ⟨by decide, by decide⟩, _, _, rfl, rfl, _, _, _, .int y3, rfl, rfl, SqL.of hp1, at_of (j := at_ + 3 + 2 * i) (by omega) ey3, .inl ⟨_, rfl, _, _, rfl, rfl, (by show (0 : Int) < _; decide), _, _, rfl, rfl, (by show 3 ≤ sizeLine; decide), fun u hu => ?_⟩⟩⟩
      have s2 : Same H1 (upd H1 u (.tup (kdV (nameM x1 i, 1 + y2 % 4, 1 + y3 % 9)))) := Same.up hu
      have hfo2 := s2 _ _ hfo
      refine ⟨f, _, _, rfl, rfl, hfo2, small (by rw [List.length_map, hts.1]; omega), ?_⟩
      refine ⟨_, _, as ++ [u], ks ++ [(nameM x1 i, 1 + y2 % 4, 1 + y3 % 9)], Same.up2 (s1.trans s2) hf, by rw [upd_same, List.map_append]; rfl, ?_, by simp [hkl], fun j k e => ?_, fun k hk => ?_, fun k hk => ?_, rfl⟩
      · exact Tups.keepL (Tups.snoc (hts.same s2) upd_same) hfo2 fun b o hb e => by rw [upd_ne hb]; exact e
      · by_cases hj : j < ks.length
        · rw [List.getElem?_append_left hj] at e
          exact hnm j k e
        · have hl' := (List.getElem?_eq_some_iff.mp e).1
          rw [List.length_append, List.length_singleton] at hl'
          have ej : j = ks.length := by omega
          subst ej
          rw [List.getElem?_append_right (Nat.le_refl _), Nat.sub_self] at e
          cases e
          rw [hkl]
      · rcases List.mem_append.mp hk with hk | hk
        · exact hco k hk
        · rw [List.mem_singleton.mp hk]; exact ⟨by show 1 ≤ 1 + y2 % 4; omega, by show 1 + y2 % 4 ≤ 4; omega⟩
      · rcases List.mem_append.mp hk with hk | hk
        · exact hde k hk
        · rw [List.mem_singleton.mp hk]; exact ⟨by show 1 ≤ 1 + y3 % 9; omega, by show 1 + y3 % 9 ≤ 9; omega⟩
    · rintro σ H1 ⟨v3, v4, as, ks, s1, hfo, hts, hkl, hnm, hco, hde, rfl⟩
      refine ⟨_, rfl, q H1 f ks s1 hf ⟨as, hfo, hts⟩ ⟨by omega, by omega, fun k hk => ?_, fun i j k l hij hk hl' => ?_, hco, hde⟩⟩
      · obtain ⟨i, hi, rfl⟩ := List.getElem_of_mem hk
        rw [hnm i _ (List.getElem?_eq_getElem hi)]
        exact nameM_ok x1 (by omega)
      · rw [hnm i k hk, hnm j l hl']
        have a1 := (List.getElem?_eq_some_iff.mp hk).1
        have a2 := (List.getElem?_eq_some_iff.mp hl').1
        exact nameM_dis x1 (by omega) (by omega) (by omega)
/-! ### _law_ways -/
theorem scLw : FnScope ["_law_numbers_here", "_law_at", "_law_kinds_here", "_law_ways_here", "_law_k", "_law_source", "_law_target"] ["_law_numbers_here", "_law_at", "_law_kinds_here"] (defScope sLawWays) := ⟨rfl, rfl, rfl, by decide +kernel, rfl, by decide +kernel, by decide +kernel⟩
def spLw : Sp := fun vs H Q _ => ∃ (p c : Addr) (xs : List Int) (at_ : Nat) (ks : List Kd), vs = [.ref p, .int (at_ : Nat), .ref c] ∧ H p = some (.lst (xs.map V.int)) ∧ xs.length = 90 ∧ at_ + 10 ≤ 90 ∧ N9 xs ∧ LTups kdV H c ks ∧ KsW ks ∧ ∀ H' b ws, Same H H' → H b = none → LTups wyV H' b ws → WsW ks ws → Q (.ref b) H'
theorem T_lw (T : Tx K mg ad fd) : Binds K (fd "_law_ways") ["_law_numbers_here", "_law_at", "_law_kinds_here"] [] := T.lawWays.fn.binds fun _ _ _ _ _ _ us hl => match us, hl with | [_, _, _], _ => rfl
theorem ok_lw (T : Tx K mg ad fd) : FnOk P w K mg base CX0 1 (ad "_law_ways") (fd "_law_ways") ["_law_numbers_here", "_law_at", "_law_kinds_here"] spLw := by
  refine T.lawWays.fn.ok scLw (fun vs H Q E h => ?_) (fun cdv A outer s H vs Q E hr h => ?_)
  · obtain ⟨p, c, xs, at_, ks, rfl, _⟩ := h
    rfl
  · obtain ⟨p, c, xs, at_, ks, rfl, hp, hl, hat, h9, ⟨kas, hc, hkt⟩, kw, q⟩ := h
    refine ⟨_, pss_cons (ps_set (i := 3) scLw.nd rfl (.inl rfl) (pe_lst pa_nil))
      (pss_cons (ps_for PassesOwn.never rfl (pi_range1 (by rfl) T.b_range (pa_cons (pe_op op_mod (pe_callTy call_int1 (by rfl) T.b_int boot_int (pa_cons (pe_ix ix_list (pv 0) (pv 1) (fun _ _ => rfl)) pa_nil)) pe_int) pa_nil)) (pg_name (i := 4) scLw.nd rfl (.inl rfl))
        (pss_cons (ps_set (i := 5) scLw.nd rfl (.inl rfl) (pe_ix ix_tup (pe_ix ix_list (pv 2) (pe_op op_mod (pe_callTy call_int1 (by rfl) T.b_int boot_int (pa_cons (pe_ix ix_list (pv 0) (pe_op op_add (pe_op op_add (pv 1) pe_int) (pe_op op_mul pe_int (pv 4))) (fun _ _ => rfl)) pa_nil)) (pe_callB call_len_seq (by rfl) T.b_len PySem.boot_len (pa_cons (pv 2) pa_nil))) (fun _ _ => rfl)) pe_int (fun _ _ => rfl)))
        (pss_cons (ps_set (i := 6) scLw.nd rfl (.inl rfl) (pe_ix ix_tup (pe_ix ix_list (pv 2) (pe_op op_mod (pe_callTy call_int1 (by rfl) T.b_int boot_int (pa_cons (pe_ix ix_list (pv 0) (pe_op op_add (pe_op op_add (pv 1) pe_int) (pe_op op_mul pe_int (pv 4))) (fun _ _ => rfl)) pa_nil)) (pe_callB call_len_seq (by rfl) T.b_len PySem.boot_len (pa_cons (pv 2) pa_nil))) (fun _ _ => rfl)) pe_int (fun _ _ => rfl)))
        (pss_one (ps_expr (pe_bm PySem.F.plainAttrs_list PySem.F.slot_list_append PySem.F.type_list_append mt_append (pv 3) (pa_cons (pe_tup (pa_cons (pv 5) (pa_cons (pv 6) (pa_cons
          (pe_op op_add pe_int (pe_op op_mod (pe_callTy call_int1 (by rfl) T.b_int boot_int (pa_cons (pe_ix ix_list (pv 0) (pe_op op_add (pe_op op_add (pv 1) pe_int) (pe_op op_mul pe_int (pv 4))) (fun _ _ => rfl)) pa_nil)) pe_int)) pa_nil)))) pa_nil)))))))
      (pss_one (ps_ret (pv 3)))), ?_⟩
    refine ⟨(by show 0 ≤ sizeLine; decide), fun f hf => ?_⟩
    have s0 : Same H (upd H f (.lst [])) := Same.up hf
    obtain ⟨x0, e0, m0⟩ := get9 (j := at_) hl (by omega)
    have g0 := md x0 (show (0 : Int) < 4 by decide)
    have kne := kw.ne
    have klen := kw.len
    have hkal : (kas.map V.ref).length = ks.length := by rw [List.length_map, hkt.1]
    have hcf : c ≠ f := ne_of_none hc hf
    -- the kind that a number names
    have pick : ∀ x : Int, ∃ k u, k ∈ ks ∧ atI (kas.map V.ref) (x % (((kas.map V.ref).length : Nat) : Int)) = some (.ref u) ∧ ∀ H', Same H H' → H' u = some (.tup (kdV k)) := fun x => by
      have hm := md x (show (0 : Int) < (((kas.map V.ref).length : Nat) : Int) by rw [hkal]; omega)
      have hlt : (x % (((kas.map V.ref).length : Nat) : Int)).toNat < ks.length := by omega
      obtain ⟨u, h1, h2⟩ := hkt.at (List.getElem?_eq_getElem hlt)
      refine ⟨_, u, List.getElem_mem hlt, at_of (j := (x % (((kas.map V.ref).length : Nat) : Int)).toNat) (by omega) h1, fun H' s' => s' _ _ h2⟩
    refine ⟨_, rfl, _, rfl, _, _, _, .int x0, rfl, rfl, SqL.of (s0 _ _ hp), atI_nat e0, .inl ⟨_, rfl, _, _, rfl, rfl, (by show (0 : Int) < _; decide), ?_⟩⟩
    refine ⟨_, rfl, by omega, by omega, for_range (lo := 0) (n := (x0 % 4).toNat) (fun i σ H' => ∃ (v4 v5 v6 : Option V) (as : List Addr) (ws : List Wy), Same H H' ∧ H' f = some (.lst (as.map V.ref)) ∧ Tups wyV H' as ws ∧ ws.length = i ∧ (∀ w ∈ ws, w.1 ∈ ks.map fun k => k.1) ∧ (∀ w ∈ ws, w.2.1 ∈ ks.map fun k => k.1) ∧ (∀ w ∈ ws, 1 ≤ w.2.2 ∧ w.2.2 ≤ 6) ∧ σ = [some (.ref p), some (.int (at_ : Nat)), some (.ref c), some (.ref f), v4, v5, v6])
      ⟨none, none, none, [], [], s0, upd_same, ⟨rfl, fun i x e => by simp at e⟩, rfl, fun k hk => by simp at hk, fun k hk => by simp at hk, fun k hk => by simp at hk, rfl⟩ ?_ ?_⟩
    · rintro i σ H1 hi ⟨v4, v5, v6, as, ws, s1, hfo, hts, hwl, h1, h2, h3, rfl⟩
      have hi3 : i < 3 := by omega
      obtain ⟨y1, ey1, my1⟩ := get9 (j := at_ + 1 + 3 * i) hl (by omega)
      obtain ⟨y2, ey2, my2⟩ := get9 (j := at_ + 2 + 3 * i) hl (by omega)
      obtain ⟨y3, ey3, my3⟩ := get9 (j := at_ + 3 + 3 * i) hl (by omega)
      have g3 := md y3 (show (0 : Int) < 6 by decide)
      have hp1 := s1 _ _ hp
      have hc1 := s1 _ _ hc
      obtain ⟨k1, u1, mk1, ak1, tk1⟩ := pick y1
      obtain ⟨k2, u2, mk2, ak2, tk2⟩ := pick y2
      have hpos : (0 : Int) < (((kas.map V.ref).length : Nat) : Int) := by rw [hkal]; omega
      refine ⟨_, rfl, _, rfl, _, rfl, _, _, rfl, rfl, _, rfl, _, _, rfl, rfl, .inl ⟨by decide, by decide⟩, _, _, rfl, rfl, _, _, _, .int y1, rfl, rfl, SqL.of hp1, at_of (j := at_ + 1 + 3 * i) (by omega) ey1, .inl ⟨_, rfl, _, rfl, c, _, rfl, .inl (SqL.of hc1), _, _, rfl, rfl, hpos, _, _, _, _, rfl, rfl, SqL.of hc1, ak1, _, _, _, _, rfl, rfl, SqT.of (tk1 _ s1), rfl, ?_⟩⟩
      refine ⟨_, rfl, _, rfl, _, rfl, _, _, rfl, rfl, _, rfl, _, _, rfl, rfl, .inl ⟨by decide, by decide⟩, _, _, rfl, rfl, _, _, _, .int y2, rfl, rfl, SqL.of hp1, at_of (j := at_ + 2 + 3 * i) (by omega) ey2, .inl ⟨_, rfl, _, rfl, c, _, rfl, .inl (SqL.of hc1), _, _, rfl, rfl, hpos, _, _, _, _, rfl, rfl, SqL.of hc1, ak2, _, _, _, _, rfl, rfl, SqT.of (tk2 _ s1), rfl, ?_⟩⟩
      refine ⟨_, rfl, .inl ⟨rfl, _, SqL.of hfo⟩, _, rfl, _, rfl, _, rfl, _, rfl, _, _, rfl, rfl, _, rfl, _, _, rfl, rfl, .inl ⟨by decide, by decide⟩, _, _, rfl, rfl, _, _, _, .int y3, rfl, rfl, SqL.of hp1, at_of (j := at_ + 3 + 3 * i) (by omega) ey3, .inl ⟨_, rfl, _, _, rfl, rfl, (by show (0 : Int) < _; decide), _, _, rfl, rfl, (by show 3 ≤ sizeLine; decide), fun u hu => ?_⟩⟩
      have s2 : Same H1 (upd H1 u (.tup (wyV (k1.1, k2.1, 1 + y3 % 6)))) := Same.up hu
      have hfo2 := s2 _ _ hfo
      refine ⟨f, _, _, rfl, rfl, hfo2, small (by rw [List.length_map, hts.1]; omega), ?_⟩
      refine ⟨_, _, _, as ++ [u], ws ++ [(k1.1, k2.1, 1 + y3 % 6)], Same.up2 (s1.trans s2) hf, by rw [upd_same, List.map_append]; rfl, ?_, by simp [hwl], fun k hk => ?_, fun k hk => ?_, fun k hk => ?_, rfl⟩
      · exact Tups.keepL (Tups.snoc (hts.same s2) upd_same) hfo2 fun b o hb e => by rw [upd_ne hb]; exact e
      · rcases List.mem_append.mp hk with hk | hk
        · exact h1 k hk
        · rw [List.mem_singleton.mp hk]; exact List.mem_map_of_mem mk1
      · rcases List.mem_append.mp hk with hk | hk
        · exact h2 k hk
        · rw [List.mem_singleton.mp hk]; exact List.mem_map_of_mem mk2
      · rcases List.mem_append.mp hk with hk | hk
        · exact h3 k hk
        · rw [List.mem_singleton.mp hk]; exact ⟨by show 1 ≤ 1 + y3 % 6; omega, by show 1 + y3 % 6 ≤ 6; omega⟩
    · rintro σ H1 ⟨v4, v5, v6, as, ws, s1, hfo, hts, hwl, h1, h2, h3, rfl⟩
      exact ⟨_, rfl, q H1 f ws s1 hf ⟨as, hfo, hts⟩ ⟨by omega, h1, h2, h3⟩⟩
end
end Nl
set_option maxHeartbeats 4000000
namespace Nl
open PySem PySem.Spec PyProof.Rows L2
def SpecAt (H : Hp) (p : Addr) (t : Tk) : Prop := ∃ kp wp, H p = some (.tup [.str t.name, .ref kp, .ref wp]) ∧ LTups kdV H kp t.kinds ∧ LTups wyV H wp t.ways
/-- .. and none of it is the list at f -/
def SpecN (f : Addr) (H : Hp) (p : Addr) (t : Tk) : Prop := ∃ kp wp, H p = some (.tup [.str t.name, .ref kp, .ref wp]) ∧ LTups kdV H kp t.kinds ∧ LTups wyV H wp t.ways ∧ kp ≠ f ∧ wp ≠ f
theorem SpecAt.same {H H' : Hp} {p : Addr} {t : Tk} (h : SpecAt H p t) (s : Same H H') : SpecAt H' p t := by
  obtain ⟨kp, wp, h1, h2, h3⟩ := h
  exact ⟨kp, wp, s _ _ h1, h2.same s, h3.same s⟩
theorem SpecN.same {f : Addr} {H H' : Hp} {p : Addr} {t : Tk} (h : SpecN f H p t) (s : Same H H') : SpecN f H' p t := by
  obtain ⟨kp, wp, h1, h2, h3, h4⟩ := h
  exact ⟨kp, wp, s _ _ h1, h2.same s, h3.same s, h4⟩
theorem SpecN.keep {f : Addr} {H H' : Hp} {p : Addr} {t : Tk} {ys : List V} (h : SpecN f H p t) (hf : H f = some (.lst ys)) (k : ∀ b o, b ≠ f → H b = some o → H' b = some o) : SpecN f H' p t := by
  obtain ⟨kp, wp, h1, h2, h3, h4, h5⟩ := h
  exact ⟨kp, wp, k _ _ (ne_of h1 hf (by simp)) h1, h2.keepL hf h4 k, h3.keepL hf h5 k, h4, h5⟩
theorem SpecN.at {f : Addr} {H : Hp} {p : Addr} {t : Tk} (h : SpecN f H p t) : SpecAt H p t := by
  obtain ⟨kp, wp, h1, h2, h3, _⟩ := h
  exact ⟨kp, wp, h1, h2, h3⟩
theorem SpecAt.ne {f : Addr} {H : Hp} {p : Addr} {t : Tk} (h : SpecAt H p t) (hf : H f = none) : SpecN f H p t := by
  obtain ⟨kp, wp, h1, h2, h3⟩ := h
  exact ⟨kp, wp, h1, h2, h3, ne_of_none h2.choose_spec.1 hf, ne_of_none h3.choose_spec.1 hf⟩
def Specs (R : Addr → Tk → Prop) (as : List Addr) (ts : List Tk) : Prop := as.length = ts.length ∧ ∀ (i : Nat) (t : Tk), ts[i]? = some t → ∃ p, as[i]? = some p ∧ R p t
theorem Specs.imp {R R' : Addr → Tk → Prop} {as : List Addr} {ts : List Tk} (h : Specs R as ts) (k : ∀ p t, R p t → R' p t) : Specs R' as ts := ⟨h.1, fun i t e => let ⟨p, h1, h2⟩ := h.2 i t e; ⟨p, h1, k _ _ h2⟩⟩
theorem Specs.snoc {R : Addr → Tk → Prop} {as : List Addr} {ts : List Tk} {p : Addr} {t : Tk} (h : Specs R as ts) (hp : R p t) : Specs R (as ++ [p]) (ts ++ [t]) := by
  refine ⟨by simp [h.1], fun i x e => ?_⟩
  by_cases hi : i < ts.length
  · rw [List.getElem?_append_left hi] at e
    obtain ⟨q, h1, h2⟩ := h.2 i x e
    exact ⟨q, by rw [List.getElem?_append_left (by rw [h.1]; exact hi)]; exact h1, h2⟩
  · have hl := (List.getElem?_eq_some_iff.mp e).1
    rw [List.length_append, List.length_singleton] at hl
    have hi' : i = ts.length := by omega
    subst hi'
    rw [List.getElem?_append_right (Nat.le_refl _), Nat.sub_self] at e
    cases e
    exact ⟨p, by rw [← h.1, List.getElem?_append_right (Nat.le_refl _), Nat.sub_self]; rfl, hp⟩
def TsW (n : Int) (ts : List Tk) : Prop := ∀ (i : Nat) (t : Tk), ts[i]? = some t → t.name = nameM n i ∧ KsW t.kinds ∧ WsW t.kinds t.ways
theorem TsW.snoc {n : Int} {ts : List Tk} {t : Tk} (h : TsW n ts) (h1 : t.name = nameM n ts.length) (h2 : KsW t.kinds) (h3 : WsW t.kinds t.ways) : TsW n (ts ++ [t]) := fun i x e => by
  by_cases hi : i < ts.length
  · rw [List.getElem?_append_left hi] at e
    exact h i x e
  · have hl := (List.getElem?_eq_some_iff.mp e).1
    rw [List.length_append, List.length_singleton] at hl
    have hi' : i = ts.length := by omega
    subst hi'
    rw [List.getElem?_append_right (Nat.le_refl _), Nat.sub_self] at e
    cases e
    exact ⟨h1, h2, h3⟩
theorem TsW.wf {n : Int} {ts : List Tk} (h : TsW n ts) : ∀ t ∈ ts, WfT t := fun t ht => by
  obtain ⟨i, hi, rfl⟩ := List.getElem_of_mem ht
  obtain ⟨_, h2, h3⟩ := h i _ (List.getElem?_eq_getElem hi)
  exact wf_of (n := ts[i].name) h2 h3
theorem TsW.dis {n : Int} {ts : List Tk} (h : TsW n ts) (hl : ts.length ≤ 4) : Dis ts := fun i j t u hij ht hu => by
  rw [(h i t ht).1, (h j u hu).1]
  have a1 := (List.getElem?_eq_some_iff.mp ht).1
  have a2 := (List.getElem?_eq_some_iff.mp hu).1
  exact nameM_dis n (by omega) (by omega) (by omega)
section
variable {P : Program} {w : World} {K : PySem.W.Frag} {mg : Str → Option Value} {base : Heap} {ad : Str → Addr} {fd : Str → FuncData}
/-! ### _law_specs -/
theorem scLs : FnScope ["_law_numbers_here", "_law_specs_here", "_law_k", "_law_kinds_here", "_law_ways_here"] ["_law_numbers_here"] (defScope sLawSpecs) := ⟨rfl, rfl, rfl, by decide +kernel, rfl, by decide +kernel, by decide +kernel⟩
def spLs : Sp := fun vs H Q _ => ∃ (p : Addr) (xs : List Int), vs = [.ref p] ∧ H p = some (.lst (xs.map V.int)) ∧ xs.length = 90 ∧ N9 xs ∧ ∀ H' b as ts, Same H H' → H b = none → H' b = some (.lst (as.map V.ref)) → Specs (SpecAt H') as ts → TsW (xs.getD 1 0) ts → 1 ≤ ts.length → ts.length ≤ 3 → Q (.ref b) H'
theorem T_ls (T : Tx K mg ad fd) : Binds K (fd "_law_specs") ["_law_numbers_here"] [] := T.lawSpecs.fn.binds fun _ _ _ _ _ _ us hl => match us, hl with | [_], _ => rfl
theorem ok_ls (T : Tx K mg ad fd) : FnOk P w K mg base CX0 3 (ad "_law_specs") (fd "_law_specs") ["_law_numbers_here"] spLs := by
  refine T.lawSpecs.fn.ok scLs (fun vs H Q E h => ?_) (fun cdv A outer s H vs Q E hr h => ?_)
  · obtain ⟨p, xs, rfl, _⟩ := h
    rfl
  · obtain ⟨p, xs, rfl, hp, hl, h9, q⟩ := h
    refine ⟨_, pss_cons (ps_set (i := 1) scLs.nd rfl (.inl rfl) (pe_lst pa_nil))
      (pss_cons (ps_for PassesOwn.never rfl (pi_range1 (by rfl) T.b_range (pa_cons (pe_op op_add pe_int (pe_op op_mod (pe_callTy call_int1 (by rfl) T.b_int boot_int (pa_cons (pe_ix ix_list (pv 0) pe_int (fun _ _ => rfl)) pa_nil)) pe_int)) pa_nil)) (pg_name (i := 2) scLs.nd rfl (.inl rfl))
        (pss_cons (ps_set (i := 3) scLs.nd rfl (.inl rfl) (pe_call (ok_lk T) hr (by rfl) T.lawKinds.gl T.lawKinds.fn.kp (T_lk T) .nil pass0 (pa_cons (pv 0) (pa_cons (pe_op op_add pe_int (pe_op op_mul pe_int (pv 2))) pa_nil))))
        (pss_cons (ps_set (i := 4) scLs.nd rfl (.inl rfl) (pe_call (ok_lw T) (hr.mono (by decide)) (by rfl) T.lawWays.gl T.lawWays.fn.kp (T_lw T) .nil pass0 (pa_cons (pv 0) (pa_cons (pe_op op_add pe_int (pe_op op_mul pe_int (pv 2))) (pa_cons (pv 3) pa_nil)))))
        (pss_one (ps_expr (pe_bm PySem.F.plainAttrs_list PySem.F.slot_list_append PySem.F.type_list_append mt_append (pv 1) (pa_cons (pe_tup (pa_cons (pe_call (ok_ln T) (hr.mono (by decide)) (by rfl) T.lawName.gl T.lawName.fn.kp (T_ln T) .nil pass0 (pa_cons (pe_ix ix_list (pv 0) pe_int (fun _ _ => rfl)) (pa_cons (pv 2) pa_nil))) (pa_cons (pv 3) (pa_cons (pv 4) pa_nil)))) pa_nil)))))))
      (pss_one (ps_ret (pv 1)))), ?_⟩
    refine ⟨(by show 0 ≤ sizeLine; decide), fun f hf => ?_⟩
    have s0 : Same H (upd H f (.lst [])) := Same.up hf
    obtain ⟨x0, e0, m0⟩ := get9 (j := 0) hl (by omega)
    have e1 : (xs.map V.int)[1]? = some (.int (xs.getD 1 0)) := by
      rw [List.getElem?_map, List.getD_eq_getElem?_getD, List.getElem?_eq_getElem (by omega)]; rfl
    have m1 : xs.getD 1 0 ∈ xs := by
      rw [List.getD_eq_getElem?_getD, List.getElem?_eq_getElem (by omega)]
      exact List.getElem_mem _
    have g0 := md x0 (show (0 : Int) < 3 by decide)
    have h1 := h9 _ m1
    generalize xs.getD 1 0 = x1 at e1 m1 h1 q
    refine ⟨_, rfl, _, _, _, .int x0, rfl, rfl, SqL.of (s0 _ _ hp), atI_nat (j := 0) e0, .inl ⟨_, rfl, _, _, rfl, rfl, (by show (0 : Int) < _; decide), _, _, rfl, rfl, ?_⟩⟩
    refine ⟨_, rfl, by omega, by omega, for_range (lo := 0) (n := (1 + x0 % 3).toNat) (fun i σ H' => ∃ (v2 v3 v4 : Option V) (as : List Addr) (ts : List Tk), Same H H' ∧ H' f = some (.lst (as.map V.ref)) ∧ Specs (SpecN f H') as ts ∧ ts.length = i ∧ TsW x1 ts ∧ σ = [some (.ref p), some (.ref f), v2, v3, v4])
      ⟨none, none, none, [], [], s0, upd_same, ⟨rfl, fun i x e => by simp at e⟩, rfl, fun i x e => by simp at e, rfl⟩ ?_ ?_⟩
    · rintro i σ H1 hi ⟨v2, v3, v4, as, ts, s1, hfo, hts, htl, htw, rfl⟩
      have hi3 : i < 3 := by omega
      have ei : V.int (0 + (i : Nat)) = V.int ((i : Nat) : Int) := by rw [Int.zero_add]
      refine ⟨_, rfl, _, rfl, _, _, rfl, rfl, .inl ⟨by decide, by decide⟩, _, _, rfl, rfl, p, xs, 2 + 17 * i, ?_, s1 _ _ hp, hl, by omega, h9, fun H2 kp ks s2 hkp hkl kw => ?_⟩
      · show [V.ref p, V.int (2 + 17 * (0 + (i : Nat)))] = _
        rw [show (2 : Int) + 17 * (0 + (i : Nat)) = ((2 + 17 * i : Nat) : Int) by omega]
      have s02 := s1.trans s2
      refine ⟨_, rfl, _, rfl, _, _, rfl, rfl, .inl ⟨by decide, by decide⟩, _, _, rfl, rfl, _, rfl, p, kp, xs, 8 + 17 * i, ks, ?_, s02 _ _ hp, hl, by omega, h9, hkl, kw, fun H3 wp ws s3 hwp hwl ww => ?_⟩
      · show [V.ref p, V.int (8 + 17 * (0 + (i : Nat))), V.ref kp] = _
        rw [show (8 : Int) + 17 * (0 + (i : Nat)) = ((8 + 17 * i : Nat) : Int) by omega]
      have s03 := s02.trans s3
      have s13 := s2.trans s3
      refine ⟨_, rfl, .inl ⟨rfl, _, SqL.of (s13 _ _ hfo)⟩, _, rfl, _, _, _, .int x1, rfl, rfl, SqL.of (s03 _ _ hp), atI_nat (j := 1) e1, _, rfl, x1, i, by rw [ei]; rfl, h1.1, h1.2, by omega, ?_⟩
      refine ⟨_, rfl, _, rfl, (by show 3 ≤ sizeLine; decide), fun u hu => ?_⟩
      have s4 : Same H3 (upd H3 u (.tup [.str (nameM x1 i), .ref kp, .ref wp])) := Same.up hu
      have hfo4 := s4 _ _ (s13 _ _ hfo)
      have nkf : kp ≠ f := (ne_of_none hfo hkp).symm
      have nwf : wp ≠ f := (ne_of_none (s2 _ _ hfo) hwp).symm
      refine ⟨f, _, _, rfl, rfl, hfo4, small (by rw [List.length_map, hts.1]; omega), ?_⟩
      have kk : ∀ b o, b ≠ f → (upd H3 u (.tup [.str (nameM x1 i), .ref kp, .ref wp])) b = some o → (upd (upd H3 u (.tup [.str (nameM x1 i), .ref kp, .ref wp])) f (.lst (as.map V.ref ++ [.ref u]))) b = some o := fun b o hb e => by rw [upd_ne hb]; exact e
      have sp : SpecN f (upd H3 u (.tup [.str (nameM x1 i), .ref kp, .ref wp])) u ⟨nameM x1 i, ks, ws⟩ := ⟨kp, wp, upd_same, (hkl.same s3).same s4, hwl.same s4, nkf, nwf⟩
      refine ⟨_, _, _, as ++ [u], ts ++ [⟨nameM x1 i, ks, ws⟩], Same.up2 (s03.trans s4) hf, by rw [upd_same, List.map_append]; rfl, ?_, by simp [htl], htw.snoc (by rw [htl]) kw ww, rfl⟩
      exact Specs.snoc (hts.imp fun p t h => ((h.same s13).same s4).keep hfo4 kk) (sp.keep hfo4 kk)
    · rintro σ H1 ⟨v2, v3, v4, as, ts, s1, hfo, hts, htl, htw, rfl⟩
      exact ⟨_, rfl, q H1 f as ts s1 hf hfo (hts.imp fun p t h => h.at) htw (by omega) (by omega)⟩
/-! ### _law_filled -/
theorem scLf : FnScope ["_law_specs_here", "_law_numbers_here", "_law_factor", "_law_filled_here", "_law_k", "_law_cost", "_law_kinds_here"] ["_law_specs_here", "_law_numbers_here", "_law_factor"] (defScope sLawFilled) := ⟨rfl, rfl, rfl, by decide +kernel, rfl, by decide +kernel, by decide +kernel⟩
def spLf : Sp := fun vs H Q _ => ∃ (b p : Addr) (xs : List Int) (as : List Addr) (ts : List Tk), vs = [.ref b, .ref p, .int 1] ∧ H p = some (.lst (xs.map V.int)) ∧ xs.length = 90 ∧ N9 xs ∧ H b = some (.lst (as.map V.ref)) ∧ Specs (SpecAt H) as ts ∧ TsW (xs.getD 1 0) ts ∧ 1 ≤ ts.length ∧ ts.length ≤ 3 ∧
  ∀ H' b' as' ts', Same H H' → H b' = none → H' b' = some (.lst (as'.map V.ref)) → Specs (SpecAt H') as' ts' → TsW (xs.getD 1 0) ts' → 1 ≤ ts'.length → ts'.length ≤ 4 → Q (.ref b') H'
theorem T_lf (T : Tx K mg ad fd) : Binds K (fd "_law_filled") ["_law_specs_here", "_law_numbers_here", "_law_factor"] [] := T.lawFilled.fn.binds fun _ _ _ _ _ _ us hl => match us, hl with | [_, _, _], _ => rfl
theorem ok_lf (T : Tx K mg ad fd) : FnOk P w K mg base CX0 2 (ad "_law_filled") (fd "_law_filled") ["_law_specs_here", "_law_numbers_here", "_law_factor"] spLf := by
  refine T.lawFilled.fn.ok scLf (fun vs H Q E h => ?_) (fun cdv A outer s H vs Q E hr h => ?_)
  · obtain ⟨b, p, xs, as, ts, rfl, _⟩ := h
    rfl
  · obtain ⟨b, p, xs, as, ts, rfl, hp, hl, h9, hb, hts, htw, ht1, ht3, q⟩ := h
    refine ⟨_, pss_cons (ps_set (i := 3) scLf.nd rfl (.inl rfl) (pe_callTy call_list_of (by rfl) T.b_list boot_list (pa_cons (pv 0) pa_nil)))
      (pss_cons (ps_if (pt_cmpR op_eq (pe_op op_mod (pe_callTy call_int1 (by rfl) T.b_int boot_int (pa_cons (pe_ix ix_list (pv 1) pe_int (fun _ _ => rfl)) pa_nil)) pe_int) pe_int (nomark _))
        (pss_one (ps_for PassesOwn.never rfl (pi_range2 (by rfl) T.b_range (pa_cons (pe_callB call_len_seq (by rfl) T.b_len PySem.boot_len (pa_cons (pv 0) pa_nil)) (pa_cons pe_int pa_nil))) (pg_name (i := 4) scLf.nd rfl (.inl rfl))
          (pss_cons (ps_set (i := 5) scLf.nd rfl (.inl rfl) (pe_op op_sub (pe_op op_mul (pe_op op_add pe_int (pe_op op_mod (pe_callTy call_int1 (by rfl) T.b_int boot_int (pa_cons (pe_ix ix_list (pv 1) (pe_op op_add pe_int (pe_op op_mul pe_int (pv 4))) (fun _ _ => rfl)) pa_nil)) pe_int)) (pv 2)) (pe_op op_fdiv (pv 2) pe_int)))
          (pss_cons (ps_set (i := 6) scLf.nd rfl (.inl rfl) (pe_lst (pa_cons (pe_tup (pa_cons (pe_call (ok_ln T) hr (by rfl) T.lawName.gl T.lawName.fn.kp (T_ln T) .nil pass0 (pa_cons (pe_ix ix_list (pv 1) pe_int (fun _ _ => rfl)) (pa_cons (pv 4) pa_nil))) (pa_cons (pv 5) (pa_cons
            (pe_op op_add pe_int (pe_op op_mod (pe_callTy call_int1 (by rfl) T.b_int boot_int (pa_cons (pe_ix ix_list (pv 1) (pe_op op_add pe_int (pe_op op_mul pe_int (pv 4))) (fun _ _ => rfl)) pa_nil)) pe_int)) pa_nil)))) pa_nil)))
          (pss_one (ps_expr (pe_bm PySem.F.plainAttrs_list PySem.F.slot_list_append PySem.F.type_list_append mt_append (pv 3) (pa_cons (pe_tup (pa_cons (pe_call (ok_ln T) hr (by rfl) T.lawName.gl T.lawName.fn.kp (T_ln T) .nil pass0 (pa_cons (pe_ix ix_list (pv 1) pe_int (fun _ _ => rfl)) (pa_cons (pv 4) pa_nil))) (pa_cons (pv 6) (pa_cons (pe_lst pa_nil) pa_nil)))) pa_nil)))))))) pss_nil)
      (pss_one (ps_ret (pv 3)))), ?_⟩
    have hbl : (as.map V.ref).length = ts.length := by rw [List.length_map, hts.1]
    refine ⟨_, rfl, b, _, rfl, .inl (SqL.of hb), fun f hf => ?_⟩
    have s0 : Same H (upd H f (.lst (as.map V.ref))) := Same.up hf
    obtain ⟨x0, e0, m0⟩ := get9 (j := 72) hl (by omega)
    have e1 : (xs.map V.int)[1]? = some (.int (xs.getD 1 0)) := by
      rw [List.getElem?_map, List.getD_eq_getElem?_getD, List.getElem?_eq_getElem (by omega)]; rfl
    have m1 : xs.getD 1 0 ∈ xs := by
      rw [List.getD_eq_getElem?_getD, List.getElem?_eq_getElem (by omega)]
      exact List.getElem_mem _
    have h1 := h9 _ m1
    generalize xs.getD 1 0 = x1 at e1 m1 h1 q htw
    refine ⟨_, rfl, _, _, _, .int x0, rfl, rfl, SqL.of (s0 _ _ hp), atI_nat (j := 72) e0, .inl ⟨_, rfl, _, _, rfl, rfl, (by show (0 : Int) < _; decide), rfl, _, rfl, ite2 (fun _ => ?_) (fun _ => ?_)⟩⟩
    · refine ⟨_, rfl, b, _, rfl, .inl (SqL.of (s0 _ _ hb)), _, _, rfl, ⟨by omega, by omega, by omega, by omega⟩, ?_⟩
      rw [hbl]
      refine for_range (lo := ((ts.length : Nat) : Int)) (n := (4 - ((ts.length : Nat) : Int)).toNat) (fun i σ H' => ∃ (v4 v5 v6 : Option V) (as' : List Addr) (ts' : List Tk), Same H H' ∧ H' f = some (.lst (as'.map V.ref)) ∧ Specs (SpecN f H') as' ts' ∧ ts'.length = ts.length + i ∧ TsW x1 ts' ∧ σ = [some (.ref b), some (.ref p), some (.int 1), some (.ref f), v4, v5, v6])
        ⟨none, none, none, as, ts, s0, upd_same, hts.imp fun p t h => (h.ne hf).same s0, by omega, htw, rfl⟩ ?_ ?_
      · rintro i σ H1 hi ⟨v4, v5, v6, as', ts', s1, hfo, hts', htl, htw', rfl⟩
        have hk4 : ts.length + i < 4 := by omega
        have ek : V.int (((ts.length : Nat) : Int) + (i : Nat)) = V.int ((ts.length + i : Nat) : Int) := by rw [Int.natCast_add]
        obtain ⟨y2, ey2, my2⟩ := get9 (j := 73 + 2 * (ts.length + i)) hl (by omega)
        obtain ⟨y3, ey3, my3⟩ := get9 (j := 74 + 2 * (ts.length + i)) hl (by omega)
        have g2 := md y2 (show (0 : Int) < 4 by decide)
        have g3 := md y3 (show (0 : Int) < 9 by decide)
        have hp1 := s1 _ _ hp
        refine ⟨_, rfl, _, rfl, _, _, rfl, rfl, .inl ⟨by decide, by decide⟩, _, _, rfl, rfl, _, _, _, .int y2, rfl, rfl, SqL.of hp1, at_of (j := 73 + 2 * (ts.length + i)) (by omega) ey2, .inl ⟨_, rfl, _, _, rfl, rfl, (by show (0 : Int) < _; decide), _, _, rfl, rfl, _, rfl, _, _, rfl, rfl, .inr ⟨by decide, by decide⟩, _, rfl, _, _, rfl, rfl, ⟨by decide, by decide⟩, _, _, rfl, rfl, ?_⟩⟩
        have ec : (1 + y2 % 4) * 1 - 1 / 3 = 1 + y2 % 4 := by omega
        refine ⟨_, rfl, _, _, _, .int x1, rfl, rfl, SqL.of hp1, atI_nat (j := 1) e1, _, rfl, x1, ts.length + i, by rw [← ek]; rfl, h1.1, h1.2, hk4, ?_⟩
        refine ⟨_, rfl, _, rfl, _, rfl, _, _, rfl, rfl, .inl ⟨by decide, by decide⟩, _, _, rfl, rfl, _, _, _, .int y3, rfl, rfl, SqL.of hp1, at_of (j := 74 + 2 * (ts.length + i)) (by omega) ey3, .inl ⟨_, rfl, _, _, rfl, rfl, (by show (0 : Int) < _; decide), _, _, rfl, rfl, (by show 3 ≤ sizeLine; decide), fun u hu => ⟨(by show 1 ≤ sizeLine; decide), fun kp hkp => ?_⟩⟩⟩
        have s2 : Same H1 (upd H1 u (.tup (kdV (nameM x1 (ts.length + i), (1 + y2 % 4) * 1 - 1 / 3, 1 + y3 % 9)))) := Same.up hu
        have hp2 := s2 _ _ hp1
        have s3 : Same _ (upd (upd H1 u (.tup (kdV (nameM x1 (ts.length + i), (1 + y2 % 4) * 1 - 1 / 3, 1 + y3 % 9)))) kp (.lst [.ref u])) := Same.up hkp
        refine ⟨_, rfl, .inl ⟨rfl, _, SqL.of (s3 _ _ (s2 _ _ hfo))⟩, _, rfl, _, _, _, .int x1, rfl, rfl, SqL.of (s3 _ _ hp2), atI_nat (j := 1) e1, _, rfl, x1, ts.length + i, by rw [← ek]; rfl, h1.1, h1.2, hk4, ?_⟩
        refine ⟨_, rfl, (by show 0 ≤ sizeLine; decide), fun wp hwp => ⟨(by show 3 ≤ sizeLine; decide), fun t ht => ?_⟩⟩
        have tu : (upd H1 u (.tup (kdV (nameM x1 (ts.length + i), (1 + y2 % 4) * 1 - 1 / 3, 1 + y3 % 9)))) u = some (.tup (kdV (nameM x1 (ts.length + i), 1 + y2 % 4, 1 + y3 % 9))) := by rw [upd_same, ec]
        have s4 := Same.up (o := .lst []) hwp
        have s5 := Same.up (o := .tup [.str (nameM x1 (ts.length + i)), .ref kp, .ref wp]) ht
        refine ⟨f, _, _, rfl, rfl, (s5 _ _ (s4 _ _ (s3 _ _ (s2 _ _ hfo)))), small (by rw [List.length_map, hts'.1]; omega), ?_⟩
        have s35 := s4.trans s5
        have s25 := s3.trans s35
        have s15 := s2.trans s25
        have hfo5 := s15 _ _ hfo
        have nkf : kp ≠ f := (ne_of_none (s2 _ _ hfo) hkp).symm
        have nwf : wp ≠ f := (ne_of_none (s3 _ _ (s2 _ _ hfo)) hwp).symm
        have lk : LTups kdV _ kp [(nameM x1 (ts.length + i), 1 + y2 % 4, 1 + y3 % 9)] := ⟨[u], s35 _ _ upd_same, rfl, fun j x e => by
          match j, e with
          | 0, e => cases e; exact ⟨u, rfl, s25 _ _ tu⟩⟩
        have lw : LTups wyV _ wp [] := ⟨[], s5 _ _ upd_same, rfl, fun j x e => by simp at e⟩
        have sp : SpecN f _ t ⟨nameM x1 (ts.length + i), [(nameM x1 (ts.length + i), 1 + y2 % 4, 1 + y3 % 9)], []⟩ := ⟨kp, wp, upd_same, lk, lw, nkf, nwf⟩
        have kk := fun (H5 : Hp) b o (hb : b ≠ f) (e : H5 b = some o) => show (upd H5 f (.lst (as'.map V.ref ++ [.ref t]))) b = some o by rw [upd_ne hb]; exact e
        have kw : KsW [(nameM x1 (ts.length + i), 1 + y2 % 4, 1 + y3 % 9)] := ⟨by simp, by simp, fun k hk => by rw [List.mem_singleton.mp hk]; exact nameM_ok x1 hk4, fun a b k l hab hk hl => by
          have a1 := (List.getElem?_eq_some_iff.mp hl).1
          have a2 : b < 1 := a1
          omega, fun k hk => by rw [List.mem_singleton.mp hk]; exact ⟨by show 1 ≤ 1 + y2 % 4; omega, by show 1 + y2 % 4 ≤ 4; omega⟩, fun k hk => by rw [List.mem_singleton.mp hk]; exact ⟨by show 1 ≤ 1 + y3 % 9; omega, by show 1 + y3 % 9 ≤ 9; omega⟩⟩
        refine ⟨_, _, _, as' ++ [t], ts' ++ [⟨nameM x1 (ts.length + i), [(nameM x1 (ts.length + i), 1 + y2 % 4, 1 + y3 % 9)], []⟩], Same.up2 (s1.trans s15) hf, by rw [upd_same, List.map_append]; rfl, ?_, by simp [htl]; omega, htw'.snoc (by rw [htl]) kw ⟨by simp, fun k hk => by simp at hk, fun k hk => by simp at hk, fun k hk => by simp at hk⟩, rfl⟩
        exact Specs.snoc (hts'.imp fun p t h => (h.same s15).keep hfo5 (kk _)) (sp.keep hfo5 (kk _))
      · rintro σ H1 ⟨v4, v5, v6, as', ts', s1, hfo, hts', htl, htw', rfl⟩
        exact ⟨_, rfl, q H1 f as' ts' s1 hf hfo (hts'.imp fun p t h => h.at) htw' (by omega) (by omega)⟩
    · exact ⟨_, rfl, q _ f as ts s0 hf upd_same (hts.imp fun p t h => h.same s0) htw ht1 (by omega)⟩
end
end Nl
set_option maxHeartbeats 4000000
namespace Nl
open PySem PySem.Spec PyProof.Rows L2
section
variable {P : Program} {w : World} {K : PySem.W.Frag} {mg : Str → Option Value} {base : Heap} {ad : Str → Addr} {fd : Str → FuncData}
/-! ### _law_system -/
theorem scLy : FnScope ["_law_specs_here", "_law_table_here", "_law_tasks", "_law_spec"] ["_law_specs_here", "_law_table_here"] (defScope sLawSystem) := ⟨rfl, rfl, rfl, by decide +kernel, rfl, by decide +kernel, by decide +kernel⟩
def spLy (ad : Str → Addr) : Sp := fun vs H Q _ => ∃ (b c : Addr) (as : List Addr) (ts : List Tk) (tbl : List Int) (n : Int), vs = [.ref b, .ref c] ∧ H b = some (.lst (as.map V.ref)) ∧ Specs (SpecAt H) as ts ∧ TsW n ts ∧ ts.length ≤ 4 ∧ H c = some (.lst (tbl.map V.int)) ∧ WfB tbl ∧ 0 ≤ n ∧ n < 1009 ∧
  ∀ H' a, Same H H' → SyAt ad H' a ts tbl → Q (.ref a) H'
theorem T_ly (T : Tx K mg ad fd) : Binds K (fd "_law_system") ["_law_specs_here", "_law_table_here"] [] := T.lawSystem.fn.binds fun _ _ _ _ _ _ us hl => match us, hl with | [_, _], _ => rfl
theorem ok_ly (T : Tx K mg ad fd) : FnOk P w K mg base CX0 5 (ad "_law_system") (fd "_law_system") ["_law_specs_here", "_law_table_here"] (spLy ad) := by
  refine T.lawSystem.fn.ok scLy (fun vs H Q E h => ?_) (fun cdv A outer s H vs Q E hr h => ?_)
  · obtain ⟨b, c, as, ts, tbl, n, rfl, _⟩ := h
    rfl
  · obtain ⟨b, c, as, ts, tbl, n, rfl, hb, hts, htw, ht4, hc, wb, hn, hn2, q⟩ := h
    refine ⟨_, pss_cons (ps_setLc (i := 2) (own := [("_law_spec", 3)]) (g := gName 3) (tt := tYes) rfl scLy.nd rfl rfl (sw_true rfl rfl rfl (by decide +kernel)) (pi_list (pv 0))
        (blkOk_by (own := [("_law_spec", 3)]) (N := ["_law_specs_here", "_law_table_here", "_law_tasks", "_law_spec"]) (sc := defScope sLawSystem) (by decide +kernel)) (fun _ _ _ _ _ => pg_name (i := 3) scLy.nd rfl (Or.inl rfl)) (fun _ _ _ _ _ => pts_nil)
        (fun _ _ _ _ _ => pe_makeK T.taskInit.mkr (ok_ti T) hr (by rfl) T.taskInit.gl (T_ti T) pass0 (pa_cons (pe_ix (ixT K) (pv 3) pe_int (fun _ _ => rfl)) pa_nil)
          (pk_cons (pe_callTy (cr_listK K) (by rfl) T.b_list boot_list (pa_cons (pe_ix (ixT K) (pv 3) pe_int (fun _ _ => rfl)) pa_nil)) (pk_cons (pe_callTy (cr_listK K) (by rfl) T.b_list boot_list (pa_cons (pe_ix (ixT K) (pv 3) pe_int (fun _ _ => rfl)) pa_nil)) pk_nil))))
      (pss_one (ps_ret (pe_makeK T.systemInit.mkr (ok_si T) (hr.mono (by decide)) (by rfl) T.systemInit.gl (T_si T) pass0 (pa_cons (pv 2) pa_nil) (pk_cons (pe_callTy call_list_of (by rfl) T.b_list boot_list (pa_cons (pv 1) pa_nil)) pk_nil)))), ?_⟩
    have hbl : (as.map V.ref).length = ts.length := by rw [List.length_map, hts.1]
    refine ⟨_, rfl, b, rfl, ⟨_, SqL.of hb⟩, fun D hD => lc_same (walk_list (a := b) (xs := as.map V.ref)) (fun i v H' => ∃ p t, ts[i]? = some t ∧ v = .ref p ∧ ∀ H'', SameX D H' H'' → TkAt ad H'' p t) (fun i v H H' ⟨p, t, h1, h2, h3⟩ s => ⟨p, t, h1, h2, fun H'' s' => h3 H'' (SameX.trans s s')⟩) (by rw [hbl]; omega) hD (fun H' s' => SqL.of (s' _ _ hb)) ?_ ?_⟩
    · rintro i v H2 H3 acc Kc hi s2 hD2 ⟨rfl, ev⟩ hc'
      have hi' : i < ts.length := by rw [← hbl]; exact hi
      obtain ⟨p, e1, hsp⟩ := hts.2 i _ (List.getElem?_eq_getElem hi')
      obtain ⟨hnm, hkw, hww⟩ := htw i _ (List.getElem?_eq_getElem hi')
      have et : ts[i]? = some ts[i] := List.getElem?_eq_getElem hi'
      generalize ts[i] = t at hnm hkw hww hsp et
      rw [List.getElem?_map, e1] at ev
      cases ev
      obtain ⟨kp, wp, h1, ⟨kas, h2, h3⟩, ⟨was, h4, h5⟩⟩ := hsp.same s2
      refine ⟨rfl, _, rfl, _, _, _, .str t.name, rfl, rfl, SqT.of h1, rfl, _, rfl, _, _, _, .ref kp, rfl, rfl, SqT.of h1, rfl, kp, _, rfl, .inl (SqL.of h2), fun l hl => ?_⟩
      have s3 : Same H3 (upd H3 l (.lst (kas.map V.ref))) := Same.up hl
      refine ⟨_, rfl, _, _, _, .ref wp, rfl, rfl, SqT.of (s3 _ _ h1), rfl, wp, _, rfl, .inl (SqL.of (s3 _ _ h4)), fun m hm => ⟨rfl, rfl, fun x dx hx hdx hne => ?_⟩⟩
      have s4 := Same.up (o := .lst (was.map V.ref)) hm
      have s5 := Same.up2 (o := .ins (ad "Task") dx []) (Same.up (o := .own x) hdx) hx
      have hok := nameM_ok n (k := i) (by omega)
      rw [← hnm] at hok
      have s35 := s4.trans s5
      refine ⟨x, dx, l, m, t.name, t.kinds, t.ways, rfl, upd_same, ⟨kas, s35 _ _ upd_same, h3.same (s3.trans s35)⟩, ⟨was, s5 _ _ upd_same, h5.same (s3.trans s35)⟩, hok, hkw.ok, hww.ok, fun H5 s6 htk => ⟨rfl, hc' _ _ ?_ ⟨x, t, et, rfl, fun H6 s7 => htk.sameX s7 (xs := acc) ?_⟩⟩⟩
      · exact s3.trans (s4.trans fun b' o hb' => s6 b' o (ne_of_none hb' hx) (s5 b' o hb'))
      · exact s6 _ _ (ne_of_none (s4 _ _ (s3 _ _ hD2)) hx) (s5 _ _ (s4 _ _ (s3 _ _ hD2)))
    · intro H1 ys s1 h1 h2 h3
      rw [hbl] at h2
      obtain ⟨tas, rfl, hal, ha⟩ := refs_of h2 (fun i p => ∃ t, ts[i]? = some t ∧ TkAt ad H1 p t) fun i y hy => by
        obtain ⟨p, t, e1, e2, e3⟩ := h3 i y hy
        exact ⟨p, e2, t, e1, e3 _ fun _ _ _ e => e⟩
      have tk : TksAt ad H1 tas ts := ⟨hal, fun i t e => by
        have hi : i < tas.length := by rw [hal]; exact (List.getElem?_eq_some_iff.mp e).1
        obtain ⟨t', e1, e2⟩ := ha i _ (List.getElem?_eq_getElem hi)
        rw [e] at e1
        cases e1
        exact ⟨_, List.getElem?_eq_getElem hi, e2⟩⟩
      refine ⟨_, rfl, _, rfl, c, _, rfl, .inl (SqL.of (s1 _ _ hc)), fun l hl => ⟨rfl, rfl, fun x dx hx hdx hne => ?_⟩⟩
      have s2 := Same.up (o := .lst (tbl.map V.int)) hl
      have s3 := Same.up2 (o := .ins (ad "System") dx []) (Same.up (o := .own x) hdx) hx
      have s23 := s2.trans s3
      refine ⟨x, dx, D, l, tas, ts, tbl, rfl, upd_same, s23 _ _ h1, tk.same s23, fun p' hp' => ?_, htw.dis ht4, by omega, .inl (s3 _ _ upd_same), wb.tb, fun H5 s6 hsy => ⟨rfl, q _ x (s1.trans (s2.trans fun b' o hb' => s6 b' o (ne_of_none hb' hx) (s3 b' o hb'))) hsy⟩⟩
      obtain ⟨i, hi, rfl⟩ := List.getElem_of_mem hp'
      obtain ⟨p2, e1, e2⟩ := tk.2 i _ (List.getElem?_eq_getElem (by rw [← hal]; exact hi))
      rw [List.getElem?_eq_getElem hi] at e1
      cases e1
      obtain ⟨_, _, _, _, _, Ot⟩ := e2.same s2
      exact ne_of_none Ot.ob hx
end
end Nl
set_option maxHeartbeats 4000000
namespace Nl
open PySem PySem.Spec PyProof.Rows L2
theorem op_notInK (K : PySem.W.Frag) {X : Cx} (h : X.K = K := by rfl) : OpR X (compareOp .NotIn) (rIn K true) := h ▸ op_notIn_seq
theorem pi_listK (K : PySem.W.Frag) {X : Cx} {tg l : Expr} {tl : TE} (hl : PE X l tl) (h : X.K = K := by rfl) : PI X tg l (iList K tl) := h ▸ pi_list hl
section
variable {P : Program} {w : World} {K : PySem.W.Frag} {mg : Str → Option Value} {base : Heap} {ad : Str → Addr} {fd : Str → FuncData}
/-! ### _law_contains -/
theorem scLc : FnScope ["_law_row_here", "_law_part", "_law_k"] ["_law_row_here", "_law_part"] (defScope sLawContains) := ⟨rfl, rfl, rfl, by decide +kernel, rfl, by decide +kernel, by decide +kernel⟩
def spLc : Sp := fun vs H Q _ => ∃ (p q : Addr) (ns part : List Nat), vs = [.ref p, .ref q] ∧ H p = some (.lst (natV ns)) ∧ H q = some (.lst (natV part)) ∧ part.length ≤ 1000 ∧ ∀ H', Same H H' → Q (.bl (conB ns part)) H'
theorem T_lc (T : Tx K mg ad fd) : Binds K (fd "_law_contains") ["_law_row_here", "_law_part"] [] := T.lawContains.fn.binds fun _ _ _ _ _ _ us hl => match us, hl with | [_, _], _ => rfl
theorem ok_lc (T : Tx K mg ad fd) : FnOk P w K mg base CX0 1 (ad "_law_contains") (fd "_law_contains") ["_law_row_here", "_law_part"] spLc := by
  refine T.lawContains.fn.ok scLc (fun vs H Q E h => ?_) (fun cdv A outer s H vs Q E hr h => ?_)
  · obtain ⟨p, q, ns, part, rfl, _⟩ := h
    rfl
  · obtain ⟨p, q, ns, part, rfl, hp, hq, hl, k⟩ := h
    refine ⟨_, pss_one (ps_ret (pe_cmpR op_eq (pe_callB call_len_seq (by rfl) T.b_len PySem.boot_len (pa_cons (pe_lc (own := [("_law_k", 2)]) (g := gName 2) rfl scLc.nd (pi_list (pv 1))
        (blkOk_by (own := [("_law_k", 2)]) (N := ["_law_row_here", "_law_part", "_law_k"]) (sc := defScope sLawContains) (by decide +kernel)) (fun _ _ _ _ _ => pg_name (i := 2) scLc.nd rfl (Or.inl rfl))
        (fun _ _ _ _ _ => pts_one (pt_cmpR (op_notInK K) (pv 2) (pv 0) (by with_unfolding_all rfl))) (fun _ _ _ _ _ => pv 2)) pa_nil)) pe_int (nomark _))), ?_⟩
    refine ⟨_, rfl, q, rfl, ⟨_, SqL.of hq⟩, fun D hD => lc_filt (walk_list (a := q) (xs := natV part)) part (fun n => decide (n ∉ ns)) (fun _ _ _ => True) (fun _ _ _ _ _ _ => trivial) (by rw [natV_len]) (by rw [natV_len]; omega) hD (fun H' s' => SqL.of (s' _ _ hq)) ?_ ?_⟩
    · rintro i v n H2 H3 acc Kc Kf hn s2 hD2 ⟨rfl, hv⟩ hc hf
      obtain ⟨n', en, rfl⟩ := natV_get hv
      rw [hn] at en
      cases en
      refine ⟨rfl, ⟨_, rfl, _, rfl, p, _, rfl, .inl (SqL.of (s2 _ _ hp)), rfl, flat_nat _, _, rfl, ?_⟩⟩
      rw [if_pos rfl, natV, inV_nat]
      refine ite2 (fun c => ?_) (fun c => ?_)
      · exact ⟨_, rfl, hc (by simpa using c) _ _ (Same.refl _) trivial⟩
      · exact hf (by simpa using c) _ (Same.refl _)
    · intro H2 ys s2 h1 h2 h3
      refine ⟨D, ys, rfl, .inl (SqL.of h1), rfl, ?_⟩
      have e : (decide (V.int (ys.length : Nat) = V.int 0)) = conB ns part := by
        unfold conB
        rw [h2]
        cases hb : part.all (fun n => decide (n ∈ ns)) with
        | true =>
          refine decide_eq_true ?_
          have : part.filter (fun n => decide (n ∉ ns)) = [] := by
            rw [List.filter_eq_nil_iff]
            intro n hn
            have := List.all_eq_true.mp hb n hn
            simpa using this
          rw [this]; rfl
        | false =>
          refine decide_eq_false fun z => ?_
          injection z with z
          obtain ⟨n, h4, h5⟩ := List.all_eq_false.mp hb
          have h6 : n ∈ part.filter (fun n => decide (n ∉ ns)) := List.mem_filter.mpr ⟨h4, by simpa using h5⟩
          have := List.length_pos_of_mem h6
          omega
      rw [e]
      exact k _ s2
end
end Nl
set_option maxHeartbeats 4000000
namespace Nl
open PySem PySem.Spec PyProof.Rows L2
/-- list displays of small lists of numbers -/
def tRow (r : List Nat) : TE := fun _ H Q => ∀ H' a, Same H H' → H' a = some (.lst (natV r)) → Q (.ref a) H'
def tRows (rs : List (List Nat)) : TA := fun _ H Q => ∀ H' as, Same H H' → RowN H' as rs → Q (as.map V.ref) H'
theorem RowN.cons {H : Hp} {a : Addr} {as : List Addr} {r : List Nat} {rs : List (List Nat)} (h : H a = some (.lst (natV r))) (k : RowN H as rs) : RowN H (a :: as) (r :: rs) := ⟨by simp [k.1], fun i x e => by
  cases i with
  | zero => cases e; exact ⟨a, rfl, h⟩
  | succ i => exact k.2 i x e⟩
theorem pa_rnil {X : Cx} : PA X [] (tRows []) := ⟨fun pos pins s σ H Q I hw => pa_nil.run pos pins s σ H Q I (hw H [] (Same.refl _) ⟨rfl, fun i x e => by simp at e⟩)⟩
theorem pa_row {X : Cx} {e : Expr} {es : List Expr} {r : List Nat} {rs : List (List Nat)} {te : TE} (he : PE X e te) (k : ∀ {σ H Q}, tRow r σ H Q → te σ H Q) (h : PA X es (tRows rs)) (hs : starEach (e :: es) X.env = (false, eval e X.env) :: starEach es X.env := by rfl) : PA X (e :: es) (tRows (r :: rs)) :=
  ⟨fun pos pins s σ H Q I hw => (pa_cons he h hs).run pos pins s σ H Q I (k fun H1 a s1 h1 => fun H2 as s2 h2 => hw H2 (a :: as) (s1.trans s2) (.cons (s2 _ _ h1) h2))⟩
def setsA : List (List Nat) := [[], [0], [1], [2], [3], [0, 1], [0, 2], [0, 3], [1, 2], [1, 3], [2, 3]]
def setsB : List (List Nat) := [[0, 1, 2], [0, 1, 3], [0, 2, 3], [1, 2, 3], [0, 1, 2, 3]]
def setsL (m : Nat) : List (List Nat) := (setsA ++ setsB).filter fun r => decide ((r.filter fun k => decide (m ≤ k)) = [])
theorem RowN.app {H : Hp} {as bs : List Addr} {rs ss : List (List Nat)} (h : RowN H as rs) (k : RowN H bs ss) : RowN H (as ++ bs) (rs ++ ss) := ⟨by simp [h.1, k.1], fun i x e => by
  by_cases hi : i < rs.length
  · rw [List.getElem?_append_left hi] at e
    rw [List.getElem?_append_left (by rw [h.1]; exact hi)]
    exact h.2 i x e
  · rw [List.getElem?_append_right (by omega)] at e
    rw [List.getElem?_append_right (by rw [h.1]; omega), h.1]
    exact k.2 _ x e⟩
section
variable {P : Program} {w : World} {K : PySem.W.Frag} {mg : Str → Option Value} {base : Heap} {ad : Str → Addr} {fd : Str → FuncData}
/-! ### _law_sets -/
theorem scLz : FnScope ["_law_many", "_law_sets_here", "_law_row_here", "_law_k"] ["_law_many"] (defScope sLawSets) := ⟨rfl, rfl, rfl, by decide +kernel, rfl, by decide +kernel, by decide +kernel⟩
def spLz : Sp := fun vs H Q _ => ∃ (m : Nat), vs = [.int (m : Nat)] ∧ ∀ H' b as, Same H H' → H' b = some (.lst (as.map V.ref)) → RowN H' as (setsL m) → Q (.ref b) H'
theorem T_lz (T : Tx K mg ad fd) : Binds K (fd "_law_sets") ["_law_many"] [] := T.lawSets.fn.binds fun _ _ _ _ _ _ us hl => match us, hl with | [_], _ => rfl
theorem ok_lz (T : Tx K mg ad fd) : FnOk P w K mg base CX0 1 (ad "_law_sets") (fd "_law_sets") ["_law_many"] spLz := by
  refine T.lawSets.fn.ok scLz (fun vs H Q E h => ?_) (fun cdv A outer s H vs Q E hr h => ?_)
  · obtain ⟨m, rfl, _⟩ := h
    rfl
  · obtain ⟨m, rfl, q⟩ := h
    refine ⟨_, pss_cons (ps_set (i := 1) scLz.nd rfl (.inl rfl) (pe_lst (pa_row (r := []) (pe_lst pa_nil) (fun h => ⟨(by show 0 ≤ sizeLine; decide), fun l hl => h _ l (Same.up hl) upd_same⟩) (pa_row (r := [0]) (pe_lst (pa_cons pe_int pa_nil)) (fun h => ⟨(by show 1 ≤ sizeLine; decide), fun l hl => h _ l (Same.up hl) upd_same⟩) (pa_row (r := [1]) (pe_lst (pa_cons pe_int pa_nil)) (fun h => ⟨(by show 1 ≤ sizeLine; decide), fun l hl => h _ l (Same.up hl) upd_same⟩) (pa_row (r := [2]) (pe_lst (pa_cons pe_int pa_nil)) (fun h => ⟨(by show 1 ≤ sizeLine; decide), fun l hl => h _ l (Same.up hl) upd_same⟩) (pa_row (r := [3]) (pe_lst (pa_cons pe_int pa_nil)) (fun h => ⟨(by show 1 ≤ sizeLine; decide), fun l hl => h _ l (Same.up hl) upd_same⟩) (pa_row (r := [0, 1]) (pe_lst (pa_cons pe_int (pa_cons pe_int pa_nil))) (fun h => ⟨(by show 2 ≤ sizeLine; decide), fun l hl => h _ l (Same.up hl) upd_same⟩) (pa_row (r := [0, 2]) (pe_lst (pa_cons pe_int (pa_cons pe_int pa_nil))) (fun h => ⟨(by show 2 ≤ sizeLine; decide), fun l hl => h _ l (Same.up hl) upd_same⟩) (pa_row (r := [0, 3]) (pe_lst (pa_cons pe_int (pa_cons pe_int pa_nil))) (fun h => ⟨(by show 2 ≤ sizeLine; decide), fun l hl => h _ l (Same.up hl) upd_same⟩) (pa_row (r := [1, 2]) (pe_lst (pa_cons pe_int (pa_cons pe_int pa_nil))) (fun h => ⟨(by show 2 ≤ sizeLine; decide), fun l hl => h _ l (Same.up hl) upd_same⟩) (pa_row (r := [1, 3]) (pe_lst (pa_cons pe_int (pa_cons pe_int pa_nil))) (fun h => ⟨(by show 2 ≤ sizeLine; decide), fun l hl => h _ l (Same.up hl) upd_same⟩) (pa_row (r := [2, 3]) (pe_lst (pa_cons pe_int (pa_cons pe_int pa_nil))) (fun h => ⟨(by show 2 ≤ sizeLine; decide), fun l hl => h _ l (Same.up hl) upd_same⟩) pa_rnil)))))))))))))
      (pss_cons (ps_set (i := 1) scLz.nd rfl (.inl rfl) (pe_op op_cat (pv 1) (pe_lst (pa_row (r := [0, 1, 2]) (pe_lst (pa_cons pe_int (pa_cons pe_int (pa_cons pe_int pa_nil)))) (fun h => ⟨(by show 3 ≤ sizeLine; decide), fun l hl => h _ l (Same.up hl) upd_same⟩) (pa_row (r := [0, 1, 3]) (pe_lst (pa_cons pe_int (pa_cons pe_int (pa_cons pe_int pa_nil)))) (fun h => ⟨(by show 3 ≤ sizeLine; decide), fun l hl => h _ l (Same.up hl) upd_same⟩) (pa_row (r := [0, 2, 3]) (pe_lst (pa_cons pe_int (pa_cons pe_int (pa_cons pe_int pa_nil)))) (fun h => ⟨(by show 3 ≤ sizeLine; decide), fun l hl => h _ l (Same.up hl) upd_same⟩) (pa_row (r := [1, 2, 3]) (pe_lst (pa_cons pe_int (pa_cons pe_int (pa_cons pe_int pa_nil)))) (fun h => ⟨(by show 3 ≤ sizeLine; decide), fun l hl => h _ l (Same.up hl) upd_same⟩) (pa_row (r := [0, 1, 2, 3]) (pe_lst (pa_cons pe_int (pa_cons pe_int (pa_cons pe_int (pa_cons pe_int pa_nil))))) (fun h => ⟨(by show 4 ≤ sizeLine; decide), fun l hl => h _ l (Same.up hl) upd_same⟩) pa_rnil))))))))
      (pss_one (ps_ret (pe_lc (own := [("_law_row_here", 2)]) (g := gName 2) rfl scLz.nd (pi_list (pv 1))
        (blkOk_by (own := [("_law_row_here", 2)]) (N := ["_law_many", "_law_sets_here", "_law_row_here", "_law_k"]) (sc := defScope sLawSets) (by decide +kernel)) (fun _ _ _ _ _ => pg_name (i := 2) scLz.nd rfl (Or.inl rfl))
        (fun _ _ _ _ _ => pts_one (pt_cmpR op_eq (pe_callB (cr_lenK K) (by rfl) T.b_len PySem.boot_len (pa_cons (pe_lc (own := [("_law_k", 3)]) (g := gName 3) rfl scLz.nd (pi_listK K (pv 2))
          (blkOk_by (own := [("_law_k", 3)]) (N := ["_law_many", "_law_sets_here", "_law_row_here", "_law_k"]) (by with_unfolding_all rfl)) (fun _ _ _ _ _ => pg_name (i := 3) scLz.nd rfl (Or.inl rfl))
          (fun _ _ _ _ _ => pts_one (pt_cmpR op_ge (pv 3) (pv 0) (nomark _))) (fun _ _ _ _ _ => pv 3)) pa_nil)) pe_int (nomark _)))
        (fun _ _ _ _ _ => pv 2))))), ?_⟩
    refine fun H1 as s1 h1 => ⟨Nat.le_of_lt (small (n := (as.map V.ref).length) (by rw [List.length_map, h1.1]; decide)), fun p hp => ⟨_, rfl, fun H2 bs s2 h2 => ⟨Nat.le_of_lt (small (n := (bs.map V.ref).length) (by rw [List.length_map, h2.1]; decide)), fun p2 hp2 => ?_⟩⟩⟩
    have h1 : RowN _ as setsA := h1
    have h2 : RowN _ bs setsB := h2
    have t1 := Same.up (o := .lst (as.map V.ref)) hp
    have t2 := Same.up (o := .lst (bs.map V.ref)) hp2
    refine ⟨p, p2, _, _, rfl, rfl, t2 _ _ (s2 _ _ upd_same), upd_same, Nat.le_of_lt (small (n := (as.map V.ref).length + (bs.map V.ref).length) (by rw [List.length_map, List.length_map, h1.1, h2.1]; decide)), fun p3 hp3 => ?_⟩
    rw [← List.map_append]
    have t3 := Same.up (o := .lst ((as ++ bs).map V.ref)) hp3
    have h3 := RowN.app (h1.same (t1.trans (s2.trans (t2.trans t3)))) (h2.same (t2.trans t3))
    have s3 := s1.trans (t1.trans (s2.trans (t2.trans t3)))
    have hp3' := upd_same (H := upd H2 p2 (.lst (bs.map V.ref))) (a := p3) (o := .lst ((as ++ bs).map V.ref))
    generalize upd (upd H2 p2 (.lst (bs.map V.ref))) p3 (.lst ((as ++ bs).map V.ref)) = H3 at h3 s3 hp3'
    have hl : ((as ++ bs).map V.ref).length = (setsA ++ setsB).length := by rw [List.length_map, h3.1]
    refine ⟨_, rfl, p3, rfl, ⟨_, SqL.of hp3'⟩, fun D hD => lc_filt (walk_list (a := p3) (xs := (as ++ bs).map V.ref)) (setsA ++ setsB) (fun r => decide ((r.filter fun k => decide (m ≤ k)) = [])) (fun r v H' => ∃ p, v = .ref p ∧ p ≠ D ∧ H' p = some (.lst (natV r))) (fun r v H H' ⟨p, e1, e2, e3⟩ k => ⟨p, e1, e2, k _ _ e2 e3⟩) hl.symm (by rw [hl]; decide) hD (fun H' s' => SqL.of (s' _ _ hp3')) ?_ ?_⟩
    · rintro i v r H4 H5 acc Kc Kf hr' s4 hD4 ⟨rfl, hv⟩ hc hf
      obtain ⟨u, r', rfl, hu, er, hur⟩ := h3.at hv
      rw [hr'] at er
      cases er
      have hrl : r.length ≤ 4 := by
        have : ∀ x ∈ setsA ++ setsB, x.length ≤ 4 := by decide
        exact this r (List.mem_of_getElem? hr')
      refine ⟨rfl, ⟨_, rfl, u, rfl, ⟨_, SqL.of (s4 _ _ hur)⟩, fun D2 hD2 => lc_filt (walk_list (a := u) (xs := natV r)) r (fun k => decide (m ≤ k)) (fun _ _ _ => True) (fun _ _ _ _ _ _ => trivial) (by rw [natV_len]) (by rw [natV_len]; omega) hD2 (fun H' s' => SqL.of (s' _ _ (s4 _ _ hur))) ?_ ?_⟩⟩
      · rintro j v n H6 H7 acc' Kc' Kf' hn s6 hD6 ⟨rfl, hv'⟩ hc' hf'
        obtain ⟨n', en, rfl⟩ := natV_get hv'
        rw [hn] at en
        cases en
        refine ⟨rfl, ⟨_, rfl, _, rfl, _, _, rfl, rfl, _, rfl, ite2 (fun c => ?_) (fun c => ?_)⟩⟩
        · exact ⟨_, rfl, hc' (by simpa using c) _ _ (Same.refl _) trivial⟩
        · exact hf' (by simpa using c) _ (Same.refl _)
      · intro H6 ys s6 k1 k2 k3
        refine ⟨D2, ys, rfl, .inl (SqL.of k1), rfl, _, rfl, ite2 (fun c => ?_) (fun c => ?_)⟩
        · refine ⟨_, rfl, hc ?_ _ _ s6 ⟨u, rfl, ne_of_none hur hD, s6 _ _ (s4 _ _ hur)⟩⟩
          have c := of_decide_eq_true c
          injection c with c
          exact decide_eq_true (List.eq_nil_of_length_eq_zero (by omega))
        · refine hf ?_ _ s6
          refine decide_eq_false fun z => c (decide_eq_true ?_)
          rw [k2, z]; rfl
    · intro H4 ys s4 k1 k2 k3
      obtain ⟨cs, rfl, hcl, hcs⟩ := refs_of k2 (fun i p => ∃ r, (setsL m)[i]? = some r ∧ H4 p = some (.lst (natV r))) fun i y hy => by
        have hi : i < (setsL m).length := by
          have := (List.getElem?_eq_some_iff.mp hy).1
          rw [k2] at this
          exact this
        obtain ⟨p, e1, e2, e3⟩ := k3 i _ y (List.getElem?_eq_getElem hi) hy
        exact ⟨p, e1, _, List.getElem?_eq_getElem hi, e3⟩
      refine q _ D cs (s3.trans s4) k1 ⟨hcl, fun i r e => ?_⟩
      have hi : i < cs.length := by rw [hcl]; exact (List.getElem?_eq_some_iff.mp e).1
      obtain ⟨r', e1, e2⟩ := hcs i _ (List.getElem?_eq_getElem hi)
      rw [e] at e1
      cases e1
      exact ⟨_, List.getElem?_eq_getElem hi, e2⟩
end
end Nl
set_option maxHeartbeats 4000000
namespace Nl
open PySem PySem.Spec PyProof.Rows L2
/-! ### more tasks ask for no less -/
theorem bestCont_nn (t : Tk) (x : Str) (size : Int) (found : List (List Int)) : 0 ≤ bestCont t x size found := by
  unfold bestCont
  have key : ∀ (l : List (Str × Int)) (a : Int), 0 ≤ a → 0 ≤ l.foldl (fun best w => if w.2 ≤ size then mx best ((found.getD (size - w.2).toNat []).getD (kno t w.1) 0) else best) a := by
    intro l
    induction l with
    | nil => intro a h; exact h
    | cons w l ih =>
      intro a h
      refine ih _ ?_
      show 0 ≤ if w.2 ≤ size then mx a _ else a
      split
      · exact Int.le_trans h mx_le.1
      · exact h
  exact key _ 0 (Int.le_refl _)
theorem rowAt_nn {t : Tk} (wf : WfT t) (s : Int) (f : List (List Int)) : ∀ y ∈ rowAt t s f, 0 ≤ y := fun y hy => by
  obtain ⟨k, hk, rfl⟩ := List.mem_map.mp hy
  have h1 := bestCont_nn t k.1 s f
  have h2 : 0 ≤ ownWork k s := by
    unfold ownWork
    split
    · have := (wf.cost k hk).1; omega
    · exact Int.le_refl _
  omega
theorem rowsN_nn {t : Tk} (wf : WfT t) : ∀ (n : Nat) (r : List Int), r ∈ rowsN t n → ∀ y ∈ r, 0 ≤ y
  | 0, r, h => by simp [rowsN] at h
  | n + 1, r, h => by
    rcases List.mem_append.mp (show r ∈ rowsN t n ++ [_] from h) with h | h
    · exact rowsN_nn wf n r h
    · rw [List.mem_singleton.mp h]
      exact rowAt_nn wf _ _
theorem maxL_nn {l : List Int} (h : ∀ y ∈ l, 0 ≤ y) : 0 ≤ maxL l := by
  unfold maxL
  refine Int.le_trans ?_ (foldl_mx l (l.headD 0)).1
  cases l with
  | nil => exact Int.le_refl _
  | cons a l => exact h a List.mem_cons_self
theorem demN_nn {t : Tk} (wf : WfT t) (n i : Nat) : 0 ≤ (demN t n).getD i 0 := by
  rw [List.getD_eq_getElem?_getD]
  cases e : (demN t n)[i]? with
  | none => exact Int.le_refl _
  | some y =>
    obtain ⟨r, hr, rfl⟩ := List.mem_map.mp (List.mem_of_getElem? e)
    exact maxL_nn (rowsN_nn wf n r hr)
def demS (ts : List Tk) (n i : Nat) : Int := (ts.map fun t => (demN t n).getD i 0).sum
theorem sysN_sum (n i : Nat) : ∀ (ts : List Tk) (tot : List Int), i < tot.length → (ts.foldl (fun tot t => addL tot (demN t n)) tot).getD i 0 = tot.getD i 0 + demS ts n i
  | [], tot, h => by simp [demS]
  | t :: ts, tot, h => by
    rw [List.foldl_cons, sysN_sum n i ts _ (by rw [addL_len]; exact h)]
    have e : (addL tot (demN t n)).getD i 0 = tot.getD i 0 + (demN t n).getD i 0 := by
      unfold addL
      rw [List.getD_eq_getElem?_getD, List.getElem?_mapIdx, List.getElem?_eq_getElem h, List.getD_eq_getElem?_getD (l := tot), List.getElem?_eq_getElem h]
      rfl
    rw [e]
    unfold demS
    rw [List.map_cons, List.sum_cons]
    omega
theorem sysN_at {ts : List Tk} {n i : Nat} (h : i < n) : (sysN ts n).getD i 0 = demS ts n i := by
  unfold sysN
  rw [sysN_sum n i ts _ (by rw [List.length_replicate]; exact h), List.getD_eq_getElem?_getD, List.getElem?_replicate, if_pos h]
  simp
theorem demS_mono {n i : Nat} {as bs : List Tk} (h : as.Sublist bs) (wf : ∀ t ∈ bs, WfT t) : demS as n i ≤ demS bs n i := by
  unfold demS
  induction h with
  | slnil => exact Int.le_refl _
  | cons a h ih =>
    rw [List.map_cons, List.sum_cons]
    have := ih fun t ht => wf t (List.mem_cons_of_mem _ ht)
    have := demN_nn (wf a List.mem_cons_self) n i
    omega
  | cons_cons a h ih =>
    rw [List.map_cons, List.sum_cons, List.map_cons, List.sum_cons]
    have := ih fun t ht => wf t (List.mem_cons_of_mem _ ht)
    omega
theorem Ov.mono {as bs : List Tk} {tbl : List Int} {hor : Nat} (h : as.Sublist bs) (wf : ∀ t ∈ bs, WfT t) (o : Ov as tbl hor) : Ov bs tbl hor := by
  obtain ⟨e, s, h1, h2, h3, h4, h5⟩ := o
  refine ⟨e, s, h1, h2, h3, h4, ?_⟩
  unfold OvAt at h5 ⊢
  have hi : e - s < hor + 1 := by omega
  rw [sysN_at hi] at h5 ⊢
  exact Int.lt_of_lt_of_le h5 (demS_mono h wf)
/-! ### the three answers -/
theorem tr_ov {ts : List Tk} {tbl : List Int} {hor : Nat} (h1 : trM ts tbl hor ≠ "undecided") (h2 : trM ts tbl hor ≠ "holds") : Ov ts tbl hor := by
  refine Classical.byContradiction fun o => ?_
  cases hd : dcM ts tbl hor with
  | true => exact h2 (tr_holds o hd)
  | false => exact h1 (tr_und o hd)
theorem tr_noov {ts : List Tk} {tbl : List Int} {hor : Nat} (h : trM ts tbl hor = "holds") : ¬ Ov ts tbl hor := fun o => by
  rw [tr_fails o] at h
  exact absurd h (by decide)
/-! ### cores -/
section
variable {ts : List Tk} {tbl : List Int} {hor : Nat}
theorem coStep_sub {f : List (List Nat)} {ns r : List Nat} (h : r ∈ f) : r ∈ coStep ts tbl hor f ns := by
  unfold coStep
  split
  · exact List.mem_append_left _ h
  · exact h
theorem co_fold_sub {r : List Nat} : ∀ (l f : List (List Nat)), r ∈ f → r ∈ l.foldl (coStep ts tbl hor) f
  | [], f, h => h
  | ns :: l, f, h => co_fold_sub l _ (coStep_sub h)
theorem coM_app {l m : List (List Nat)} {r : List Nat} (h : r ∈ coM ts tbl hor l) : r ∈ coM ts tbl hor (l ++ m) := by
  unfold coM
  rw [List.foldl_append]
  exact co_fold_sub m _ h
/-- a core: not safe, and free of the cores before it -/
theorem co_fold_mem {r : List Nat} : ∀ (l f : List (List Nat)), r ∈ l.foldl (coStep ts tbl hor) f → r ∈ f ∨ ∃ pre post, l = pre ++ r :: post ∧ trM (subT ts r) tbl hor ≠ "holds" ∧ hpB r (pre.foldl (coStep ts tbl hor) f) = false
  | [], f, h => .inl h
  | ns :: l, f, h => by
    rcases co_fold_mem l _ h with h | ⟨pre, post, e, h1, h2⟩
    · unfold coStep at h
      split at h
      · rename_i c
        rcases List.mem_append.mp h with h | h
        · exact .inl h
        · rw [List.mem_singleton.mp h]
          exact .inr ⟨[], l, rfl, c.1, c.2⟩
      · exact .inl h
    · exact .inr ⟨ns :: pre, post, by rw [e]; rfl, h1, h2⟩
theorem coM_mem {l : List (List Nat)} {r : List Nat} (h : r ∈ coM ts tbl hor l) : ∃ pre post, l = pre ++ r :: post ∧ trM (subT ts r) tbl hor ≠ "holds" ∧ hpB r (coM ts tbl hor pre) = false := by
  rcases co_fold_mem l [] h with h | h
  · simp at h
  · exact h
theorem conB_refl (r : List Nat) : conB r r = true := List.all_eq_true.mpr fun x hx => decide_eq_true hx
theorem conB_trans {a b c : List Nat} (h : conB a b = true) (k : conB b c = true) : conB a c = true := List.all_eq_true.mpr fun x hx => decide_eq_true (of_decide_eq_true (List.all_eq_true.mp h x (of_decide_eq_true (List.all_eq_true.mp k x hx))))
/-- a set that is not safe holds a core -/
theorem coM_cover {r : List Nat} (h : trM (subT ts r) tbl hor ≠ "holds") : ∀ l : List (List Nat), r ∈ l → ∃ c ∈ coM ts tbl hor l, conB r c = true := by
  intro l hl
  obtain ⟨pre, post, rfl⟩ := List.append_of_mem hl
  rw [show pre ++ r :: post = (pre ++ [r]) ++ post by simp]
  have : ∃ c ∈ coM ts tbl hor (pre ++ [r]), conB r c = true := by
    rw [coM_snoc]
    unfold coStep
    cases hb : hpB r (coM ts tbl hor pre) with
    | false =>
      rw [if_pos ⟨h, rfl⟩]
      exact ⟨r, List.mem_append_right _ (List.mem_singleton.mpr rfl), conB_refl r⟩
    | true =>
      rw [if_neg fun c => by cases c.2]
      obtain ⟨c, h1, h2⟩ := List.any_eq_true.mp hb
      exact ⟨c, h1, h2⟩
  obtain ⟨c, h1, h2⟩ := this
  exact ⟨c, coM_app h1, h2⟩
end
/-! ### the sets of at most four -/
theorem all_subl : ∀ n, n < 5 → ∀ c ∈ allS n (n + 1), ∀ r ∈ allS n (n + 1), conB r c = true → c.isSublist r = true := by decide +kernel
theorem all_less : ∀ n, n < 5 → ∀ i, i < (allS n (n + 1)).length → ∀ x ∈ (allS n (n + 1)).getD i [], ((allS n (n + 1)).getD i []).filter (fun k => decide (k ≠ x)) ∈ (allS n (n + 1)).take i := by decide +kernel
theorem all_nodup : ∀ n, n < 5 → (allS n (n + 1)).Nodup := by decide +kernel
theorem sets_all : ∀ n, n < 5 → ∀ r ∈ setsL n, r ∈ allS n (n + 1) := by decide +kernel
theorem all_sets : ∀ n, n < 5 → ∀ r ∈ allS n (n + 1), r ∈ setsL n := by decide +kernel
theorem subT_subl {ts : List Tk} {c r : List Nat} (h : c.Sublist r) : (subT ts c).Sublist (subT ts r) := h.map _
section
variable {ts : List Tk} {tbl : List Int} {hor n : Nat}
/-- the law, of what is computed -/
structure LawP (ts : List Tk) (tbl : List Int) (hor n : Nat) : Prop where
  mem : ∀ c ∈ coM ts tbl hor (allS n (n + 1)), c ∈ allS n (n + 1)
  bad : ∀ c ∈ coM ts tbl hor (allS n (n + 1)), trM (subT ts c) tbl hor ≠ "holds"
  less : ∀ c ∈ coM ts tbl hor (allS n (n + 1)), ∀ x ∈ c, c.filter (fun k => decide (k ≠ x)) ∈ allS n (n + 1) ∧ trM (subT ts (c.filter fun k => decide (k ≠ x))) tbl hor = "holds"
  cov : ∀ r ∈ allS n (n + 1), trM (subT ts r) tbl hor = "holds" ↔ ¬ ∃ c ∈ coM ts tbl hor (allS n (n + 1)), conB r c = true
theorem lawP (hn : ts.length = n) (h5 : n < 5) (wf : ∀ t ∈ ts, WfT t) (hd : ∀ r ∈ allS n (n + 1), trM (subT ts r) tbl hor ≠ "undecided") : LawP ts tbl hor n := by
  have hm : ∀ c ∈ coM ts tbl hor (allS n (n + 1)), c ∈ allS n (n + 1) := fun c hc => by
    obtain ⟨pre, post, e, _⟩ := coM_mem hc
    rw [e]
    simp
  have hb : ∀ c ∈ coM ts tbl hor (allS n (n + 1)), trM (subT ts c) tbl hor ≠ "holds" := fun c hc => by
    obtain ⟨pre, post, e, h1, _⟩ := coM_mem hc
    exact h1
  refine ⟨hm, hb, fun c hc x hx => ?_, fun r hr => ⟨fun h ⟨c, hc, hcr⟩ => ?_, fun h => ?_⟩⟩
  · obtain ⟨pre, post, e, h1, h2⟩ := coM_mem hc
    have hi : pre.length < (allS n (n + 1)).length := by rw [e]; simp
    have hg : (allS n (n + 1)).getD pre.length [] = c := by
      rw [e, List.getD_eq_getElem?_getD, List.getElem?_append_right (Nat.le_refl _), Nat.sub_self]
      rfl
    have ht : (allS n (n + 1)).take pre.length = pre := by rw [e, List.take_left']; rfl
    have hl := all_less n h5 pre.length hi x (by rw [hg]; exact hx)
    rw [hg, ht] at hl
    refine ⟨by rw [e]; exact List.mem_append_left _ hl, Classical.byContradiction fun hno => ?_⟩
    obtain ⟨d, hd1, hd2⟩ := coM_cover hno pre hl
    have : hpB c (coM ts tbl hor pre) = true := List.any_eq_true.mpr ⟨d, hd1, conB_trans (List.all_eq_true.mpr fun y hy => decide_eq_true (List.mem_filter.mp hy).1) hd2⟩
    rw [h2] at this
    cases this
  · have o := tr_ov (hd c (hm c hc)) (hb c hc)
    have hs := List.isSublist_iff_sublist.mp (all_subl n h5 c (hm c hc) r hr hcr)
    refine tr_noov h (o.mono (subT_subl hs) fun t ht => ?_)
    obtain ⟨k, hk, rfl⟩ := List.mem_map.mp ht
    have hk' : k < ts.length := by
      rw [hn]
      have : ∀ n, n < 5 → ∀ r ∈ allS n (n + 1), ∀ k ∈ r, k < n := by decide +kernel
      exact this n h5 r hr k hk
    rw [List.getD_eq_getElem?_getD, List.getElem?_eq_getElem hk']
    exact wf _ (List.getElem_mem _)
  · exact Classical.byContradiction fun hno => h (coM_cover hno _ hr)
end
end Nl
set_option maxHeartbeats 4000000
namespace Nl
open PySem PySem.Spec PyProof.Rows L2
theorem room65 {k : Nat} {A : Around} (r : Room k A) : A.units + 65 < cLine := by have := r.un; omega
def dOf (ns : List Nat) : PyData := .list (ns.map fun k => .int ((k : Nat) : Int))
theorem dp_nats {K : PySem.W.Frag} {H : Hp} : ∀ ns : List Nat, DpAll K H (natV ns) (ns.map fun k => .int ((k : Nat) : Int))
  | [] => .nil
  | n :: ns => .cons (.int _) (dp_nats ns)
theorem dp_nat {K : PySem.W.Frag} {H : Hp} {p : Addr} {ns : List Nat} (h : H p = some (.lst (natV ns))) : Dp K H (.ref p) (dOf ns) := .lst (SqL.of h) (dp_nats ns)
theorem dp_rows {K : PySem.W.Frag} {H : Hp} : ∀ (as : List Addr) (rs : List (List Nat)), RowN H as rs → DpAll K H (as.map V.ref) (rs.map dOf)
  | [], [], _ => .nil
  | [], r :: rs, h => by cases h.1
  | a :: as, [], h => by cases h.1
  | a :: as, r :: rs, h => by
    obtain ⟨p, e1, e2⟩ := h.2 0 r rfl
    cases e1
    exact .cons (dp_nat e2) (dp_rows as rs ⟨Nat.succ.inj h.1, fun i x e => h.2 (i + 1) x e⟩)
theorem all_shaped : ∀ n, n < 5 → ∀ c ∈ allS n (n + 1), SeqAt.shaped (dOf c) = true := by decide +kernel
theorem sets_shaped : ∀ n, n < 5 → SeqAt.shaped (.list ((setsL n).map dOf)) = true := by decide +kernel
theorem all_in : ∀ n, n < 5 → ∀ c ∈ allS n (n + 1), (((setsL n).map dOf).any fun z => PyData.eqv z (dOf c)) = true := by decide +kernel
theorem all_small : ∀ n, n < 5 → ∀ r ∈ allS n (n + 1), (∀ k ∈ r, k < n) ∧ r.length ≤ 4 := by decide +kernel
theorem all_len : ∀ n, n < 5 → (allS n (n + 1)).length ≤ 100 := by decide +kernel
theorem all_asc : ∀ n, n < 5 → ∀ r ∈ allS n (n + 1), r.Pairwise (· < ·) := by decide +kernel
section
variable {P : Program} {w : World} {K : PySem.W.Frag} {mg : Str → Option Value} {base : Heap} {ad : Str → Addr} {fd : Str → FuncData}
/-! ### law -/
abbrev nLaw : List Str := ["_law_script", "_law_numbers_here", "_law_specs_here", "_law_table_here", "_law_horizon", "_law_system_here", "_law_found", "e", "_law_sets_here", "_law_core", "_law_left", "_law_row_here", "_law_covered", "_law_k"]
theorem scLaw : FnScope nLaw ["_law_script"] (defScope sLaw) := ⟨rfl, rfl, rfl, by decide +kernel, rfl, by decide +kernel, by decide +kernel⟩
def spLaw (K : PySem.W.Frag) : Sp := fun vs H Q _ => ∃ (a : Addr) (ks : List Int), vs = [.ref a] ∧ SqL K H a (ks.map V.int) ∧ (∀ H', Same H H' → SqL K H' a (ks.map V.int)) ∧ ∀ H', Same H H' → Q (.bl true) H'
theorem T_law (T : Tx K mg ad fd) : Binds K (fd "law") ["_law_script"] [] := T.law.fn.binds fun _ _ _ _ _ _ us hl => match us, hl with | [_], _ => rfl
theorem ok_law (T : Tx K mg ad fd) (U : UT P K mg ad) : FnOk P w K mg base CX0 22 (ad "law") (fd "law") ["_law_script"] (spLaw K) := by
  refine T.law.fn.ok scLaw (fun vs H Q E h => ?_) (fun cdv A outer s H vs Q E hr h => ?_)
  · obtain ⟨a, ks, rfl, _⟩ := h
    rfl
  · obtain ⟨a, ks, rfl, ha, ha', q⟩ := h
    refine ⟨_, pss_cons (ps_set (i := 1) scLaw.nd rfl (.inl rfl) (pe_call (ok_lnu T) (hr.mono (by decide)) (by rfl) T.lawNumbers.gl T.lawNumbers.fn.kp (T_lnu T) .nil pass0 (pa_cons (pv 0) (pa_cons pe_int pa_nil))))
      (pss_cons (ps_set (i := 2) scLaw.nd rfl (.inl rfl) (pe_call (ok_lf T) (hr.mono (by decide)) (by rfl) T.lawFilled.gl T.lawFilled.fn.kp (T_lf T) .nil pass0 (pa_cons (pe_call (ok_ls T) (hr.mono (by decide)) (by rfl) T.lawSpecs.gl T.lawSpecs.fn.kp (T_ls T) .nil pass0 (pa_cons (pv 1) pa_nil)) (pa_cons (pv 1) (pa_cons pe_int pa_nil)))))
      (pss_cons (ps_set (i := 3) scLaw.nd rfl (.inl rfl) (pe_call (ok_lt T) (hr.mono (by decide)) (by rfl) T.lawTable.gl T.lawTable.fn.kp (T_lt T) .nil pass0 (pa_cons (pv 1) (pa_cons pe_int pa_nil))))
      (pss_cons (ps_set (i := 4) scLaw.nd rfl (.inl rfl) (pe_op op_add pe_int (pe_op op_mod (pe_callTy call_int1 (by rfl) T.b_int boot_int (pa_cons (pe_ix ix_list (pv 1) pe_int (fun _ _ => rfl)) pa_nil)) pe_int)))
      (pss_cons (ps_set (i := 5) scLaw.nd rfl (.inl rfl) (pe_call (ok_ly T) (hr.mono (by decide)) (by rfl) T.lawSystem.gl T.lawSystem.fn.kp (T_ly T) .nil pass0 (pa_cons (pv 2) (pa_cons (pv 3) pa_nil))))
      (pss_cons (ps_try_as (i := 7) rfl rfl scLaw.nd rfl rfl ⟨by rfl, by decide, .inl U.gC⟩ takes_no
        (fun W pn xe tk po => pss_one (ps_set (i := 6) scLaw.nd rfl (.inl rfl) (pe_callNS (ok_cores T U) hr (by rfl) T.cores.gl T.cores.fn.kp (T_cores T) (fun σ => passAt tk σ) (pa_cons (pv 5) pa_nil) (pk_cons (pv 4) pk_nil))))
        (fun a oe cls d pn hz hf => pss_one (ps_ret (pe_cmpR op_eq (pe_horUnd U hz hf (pv 7)) (pv 4) (nomark _)))))
      (pss_cons (ps_set (i := 8) scLaw.nd rfl (.inl rfl) (pe_call (ok_lz T) (hr.mono (by decide)) (by rfl) T.lawSets.gl T.lawSets.fn.kp (T_lz T) .nil pass0 (pa_cons (pe_callB call_len_seq (by rfl) T.b_len PySem.boot_len (pa_cons (pv 2) pa_nil)) pa_nil)))
      (pss_cons (ps_for PassesOwn.never rfl (pi_list (pv 6)) (pg_name (i := 9) scLaw.nd rfl (.inl rfl))
        (pss_cons (ps_if (pw_or (pt_cmpR (op_notInD (room65 hr)) (pv 9) (pv 8) (by with_unfolding_all rfl)) (pw_or1 (pt_val (pe_callN (E := fun _ _ _ => False) (ok_cl T U) (hr.mono (by decide)) (by rfl) T.canLive.gl T.canLive.fn.kp (T_cl T) (passes_call takes_no (fun _ _ _ _ h => h)) (pa_cons (pv 5) (pa_cons (pe_callTy call_list_of (by rfl) T.b_list boot_list (pa_cons (pv 9) pa_nil)) pa_nil)) (pk_cons (pv 4) pk_nil))))).pt (pss_one (ps_ret pe_bl)) pss_nil)
        (pss_one (ps_for PassesOwn.never rfl (pi_list (pv 9)) (pg_name (i := 10) scLaw.nd rfl (.inr rfl))
          (pss_one (ps_if (pt_not (pt_val (pe_callN (E := fun _ _ _ => False) (ok_cl T U) (hr.mono (by decide)) (by rfl) T.canLive.gl T.canLive.fn.kp (T_cl T) (passes_call takes_no (fun _ _ _ _ h => h)) (pa_cons (pv 5) (pa_cons (pe_lc (own := [("_law_k", 13)]) (g := gName 13) rfl scLaw.nd (pi_list (pv 9))
            (blkOk_by (own := [("_law_k", 13)]) (N := nLaw) (sc := defScope sLaw) (by decide +kernel)) (fun _ _ _ _ _ => pg_name (i := 13) scLaw.nd rfl (Or.inl rfl))
            (fun _ _ _ _ _ => pts_one (pt_cmpR op_ne (pv 13) (pv 10) (nomark _))) (fun _ _ _ _ _ => pv 13)) pa_nil)) (pk_cons (pv 4) pk_nil)))) (pss_one (ps_ret pe_bl)) pss_nil))))))
      (pss_cons (ps_for PassesOwn.never rfl (pi_list (pv 8)) (pg_name (i := 11) scLaw.nd rfl (.inr rfl))
        (pss_cons (ps_set (i := 12) scLaw.nd rfl (.inl rfl) (pe_cmpR op_gt (pe_callB call_len_seq (by rfl) T.b_len PySem.boot_len (pa_cons (pe_lc (own := [("_law_core", 9)]) (g := gName 9) rfl scLaw.nd (pi_list (pv 6))
            (blkOk_by (own := [("_law_core", 9)]) (N := nLaw) (sc := defScope sLaw) (by decide +kernel)) (fun _ _ _ _ _ => pg_name (i := 9) scLaw.nd rfl (Or.inl rfl))
            (fun _ _ _ _ _ => pts_one (pt_val (pe_call (ok_lc T) (hr.mono (by decide)) (by rfl) T.lawContains.gl T.lawContains.fn.kp (T_lc T) .nil pass0 (pa_cons (pv 11) (pa_cons (pv 9) pa_nil))))) (fun _ _ _ _ _ => pv 9)) pa_nil)) pe_int (nomark _)))
        (pss_one (ps_if (pt_cmpR op_eq (pe_callN (E := fun _ _ _ => False) (ok_cl T U) (hr.mono (by decide)) (by rfl) T.canLive.gl T.canLive.fn.kp (T_cl T) (passes_call takes_no (fun _ _ _ _ h => h)) (pa_cons (pv 5) (pa_cons (pe_callTy call_list_of (by rfl) T.b_list boot_list (pa_cons (pv 11) pa_nil)) pa_nil)) (pk_cons (pv 4) pk_nil)) (pv 12) (nomark _)) (pss_one (ps_ret pe_bl)) pss_nil))))
      (pss_one (ps_ret pe_bl)))))))))), ?_⟩
    refine ⟨_, rfl, a, ks, rfl, ha, ha', fun H1 p xs s1 hp hpo hl h9 => ?_⟩
    refine ⟨_, rfl, p, xs, rfl, hpo, hl, h9, fun H2 b as ts0 s2 hb hbo hts0 htw0 hl1 hl3 => ⟨_, rfl, b, p, xs, as, ts0, rfl, s2 _ _ hpo, hl, h9, hbo, hts0, htw0, hl1, hl3, fun H3 b' as' ts s3 hb' hbo' hts htw hl1' hl4 => ?_⟩⟩
    refine ⟨_, rfl, p, xs, 60, rfl, s3 _ _ (s2 _ _ hpo), hl, by omega, h9, fun H4 c tbl s4 hc hco wb => ?_⟩
    have s14 := s2.trans (s3.trans s4)
    obtain ⟨x65, e65, m65⟩ := get9 (j := 65) hl (by omega)
    have g65 := md x65 (show (0 : Int) < 7 by decide)
    obtain ⟨hor, hhor⟩ : ∃ hor : Nat, 14 + x65 % 7 = (hor : Int) := ⟨(14 + x65 % 7).toNat, by omega⟩
    have m1 : xs.getD 1 0 ∈ xs := by
      rw [List.getD_eq_getElem?_getD, List.getElem?_eq_getElem (by omega)]
      exact List.getElem_mem _
    have hx1 := h9 _ m1
    refine ⟨_, rfl, _, _, _, .int x65, rfl, rfl, SqL.of (s14 _ _ hpo), atI_nat (j := 65) e65, .inl ⟨_, rfl, _, _, rfl, rfl, (by show (0 : Int) < _; decide), _, _, rfl, rfl, ?_⟩⟩
    refine ⟨_, rfl, _, rfl, b', c, as', ts, tbl, xs.getD 1 0, rfl, s4 _ _ hbo', hts.imp fun p t h => h.same s4, htw, hl4, hco, wb, hx1.1, hx1.2, fun H5 y s5 hsy => ?_⟩
    have s15 := s1.trans (s14.trans s5)
    have wf := htw.wf
    have dis := htw.dis hl4
    have h5 : ts.length < 5 := by omega
    generalize hn : ts.length = n at h5 hl4 hl1'
    have ehor : V.int (14 + x65 % 7) = V.int (hor : Nat) := by rw [hhor]
    refine ⟨_, rfl, _, rfl, rfl, rfl, y, ts, tbl, hor, by rw [← ehor]; rfl, hsy, wf, by omega, dis, wb, by omega, fun hund d H7 hd7 s7 hdo => ⟨true, U.te, fun _ a' ha' => ?_, fun h => by cases h⟩, fun hd H7 f as7 s7 hfo hrs => ?_⟩
    · refine ⟨_, rfl, rfl, rfl, d, _, rfl, hdo, _, rfl, rfl, ?_⟩
      rw [decide_eq_true (show V.int (hor : Nat) = (fun i j => V.int (i + j)) 14 (x65 % 7) from ehor.symm)]
      exact q _ (s15.trans s7)
    have lp := lawP hn h5 wf (by rw [hn] at hd; exact hd)
    rw [hn] at hd hrs
    have s17 := s15.trans s7
    have hb7 := s7 _ _ (s5 _ _ (s4 _ _ hbo'))
    have hsy7 := hsy.same s7
    have hal : (as'.map V.ref).length = n := by rw [List.length_map, hts.1, hn]
    refine ⟨_, rfl, b', _, rfl, .inl (SqL.of hb7), n, by rw [hal]; rfl, fun H8 sl bs s8 hslo hbs => ?_⟩
    have s18 := s17.trans s8
    have hsy8 := hsy7.same s8
    have hfo8 := s8 _ _ hfo
    have hrs8 := hrs.same s8
    generalize hcs : coM ts tbl hor (allS n (n + 1)) = cs at *
    have hcl : (as7.map V.ref).length = cs.length := by rw [List.length_map, hrs.1]
    -- what can_live answers of a set of the tasks
    have cl : ∀ (H' : Hp) (u : Addr) (ns : List Nat) (Q' : VK), Same H8 H' → ns ∈ allS n (n + 1) → H' u = some (.lst (natV ns)) → (∀ H'', Same H' H'' → Q' (.bl (decide (trM (subT ts ns) tbl hor = "holds"))) H'') → spCl ad [.ref y, .ref u, .int (14 + x65 % 7)] H' Q' fun _ _ _ => False := fun H' u ns Q' s' hm hu k =>
      ⟨y, u, ts, tbl, ns, hor, by rw [← ehor], hsy8.same s', wf, hu, by rw [hn]; exact (all_small n h5 ns hm).1, (all_small n h5 ns hm).2, dis.sub (all_asc n h5 ns hm) (by rw [hn]; exact (all_small n h5 ns hm).1), wb, by omega, fun z => absurd z (hd ns hm), fun _ => k⟩
    refine ⟨_, rfl, f, rfl, ⟨_, SqL.of hfo8⟩, for_it (walk_list (a := f) (xs := as7.map V.ref)) (fun i σ H' => ∃ v9 v10, Same H8 H' ∧ σ = [some (.ref a), some (.ref p), some (.ref b'), some (.ref c), some (.int (14 + x65 % 7)), some (.ref y), some (.ref f), none, some (.ref sl), v9, v10, none, none, none])
      ⟨none, none, Same.refl _, rfl⟩ (fun i σ H' _ ⟨_, _, s', _⟩ => SqL.of (s' _ _ hfo8)) ?_ ?_⟩
    · rintro i v σ H9 H10 hi ⟨v9, v10, s9, rfl⟩ ⟨rfl, ev⟩
      obtain ⟨u, ns, rfl, hu, hns, huo⟩ := (hrs8.same s9).at ev
      have hm := List.mem_of_getElem? hns
      have hmS := lp.mem ns (by rw [hcs]; exact hm)
      have hbad := lp.bad ns (by rw [hcs]; exact hm)
      refine ⟨_, rfl, _, rfl, dOf ns, (setsL n).map dOf, dp_nat huo, .lst (SqL.of (s9 _ _ hslo)) (dp_rows _ _ (hbs.same s9)), all_shaped n h5 ns hmS, sets_shaped n h5, _, rfl, ?_⟩
      rw [all_in n h5 ns hmS]
      refine ite2 (fun c => absurd c (by decide)) (fun _ => ?_)
      refine ⟨_, rfl, _, rfl, u, _, rfl, .inl (SqL.of huo), fun l hl => ⟨_, rfl, rfl, rfl, ?_⟩⟩
      have s10 := Same.up (o := .lst (natV ns)) hl
      refine cl _ l ns _ (s9.trans s10) hmS upd_same fun H11 s11 => ?_
      rw [decide_eq_false hbad]
      refine ⟨_, rfl, ite2 (fun c => absurd c (by decide)) (fun _ => ?_)⟩
      have s911 := s9.trans (s10.trans s11)
      have huo11 := s11 _ _ (s10 _ _ huo)
      refine ⟨_, rfl, u, rfl, ⟨_, SqL.of huo11⟩, for_it (walk_list (a := u) (xs := natV ns)) (fun j σ H' => ∃ v10, Same H11 H' ∧ σ = [some (.ref a), some (.ref p), some (.ref b'), some (.ref c), some (.int (14 + x65 % 7)), some (.ref y), some (.ref f), none, some (.ref sl), some (.ref u), v10, none, none, none])
        ⟨_, Same.refl _, rfl⟩ (fun j σ H' _ ⟨_, s', _⟩ => SqL.of (s' _ _ huo11)) ?_ ?_⟩
      · rintro j v σ H12 H13 hj ⟨v10', s12, rfl⟩ ⟨rfl, ev'⟩
        obtain ⟨x, ex, rfl⟩ := natV_get ev'
        have hx := List.mem_of_getElem? ex
        have hls := lp.less ns (by rw [hcs]; exact hm) x hx
        have huo12 := s12 _ _ huo11
        refine ⟨_, rfl, _, rfl, u, rfl, ⟨_, SqL.of huo12⟩, fun D hD => lc_filt (walk_list (a := u) (xs := natV ns)) ns (fun k => decide (k ≠ x)) (fun k v _ => v = .int (k : Nat)) (fun _ _ _ _ h _ => h) (by rw [natV_len]) (by rw [natV_len]; have := (all_small n h5 ns hmS).2; omega) hD (fun H' s' => SqL.of (s' _ _ huo12)) ?_ ?_⟩
        · rintro j2 v k H14 H15 acc Kc Kf hk s14 hD14 ⟨rfl, hv⟩ hc' hf'
          obtain ⟨k', ek, rfl⟩ := natV_get hv
          rw [hk] at ek
          cases ek
          refine ⟨rfl, ⟨_, rfl, _, rfl, rfl, _, rfl, ite2 (fun c => ?_) (fun c => ?_)⟩⟩
          · exact ⟨_, rfl, hc' (by have c' : ¬ ((k : Nat) : Int) = (x : Nat) := by simpa using c
                                   exact decide_eq_true fun z => c' (by rw [z])) _ _ (Same.refl _) rfl⟩
          · exact hf' (by have c' : ((k : Nat) : Int) = (x : Nat) := by simpa using c
                          exact decide_eq_false fun z => z (Int.ofNat_inj.mp c')) _ (Same.refl _)
        · intro H14 ys s14 h1 h2 h3
          have ey : ys = natV (ns.filter fun k => decide (k ≠ x)) := by
            apply List.ext_getElem?
            intro i
            unfold natV
            rw [List.getElem?_map]
            by_cases hi : i < ys.length
            · have hi2 : i < (ns.filter fun k => decide (k ≠ x)).length := by rw [← h2]; exact hi
              rw [List.getElem?_eq_getElem hi2, List.getElem?_eq_getElem hi]
              rw [h3 i _ _ (List.getElem?_eq_getElem hi2) (List.getElem?_eq_getElem hi)]
              rfl
            · rw [List.getElem?_eq_none (by omega), List.getElem?_eq_none (by rw [← h2]; omega)]
              rfl
          rw [ey] at h1
          refine ⟨_, rfl, rfl, rfl, cl _ D _ _ (s911.trans (s12.trans s14)) hls.1 h1 fun H15 s15 => ?_⟩
          rw [decide_eq_true hls.2]
          exact ⟨_, rfl, ite2 (fun c => absurd c (by decide)) (fun _ => ⟨_, s12.trans (s14.trans s15), rfl⟩)⟩
      · rintro σ H12 ⟨v10', s12, rfl⟩
        exact ⟨_, _, s911.trans s12, rfl⟩
    · rintro σ H9 ⟨v9, v10, s9, rfl⟩
      have hbl : (bs.map V.ref).length = (setsL n).length := by rw [List.length_map, hbs.1]
      refine ⟨_, rfl, sl, rfl, ⟨_, SqL.of (s9 _ _ hslo)⟩, for_it (walk_list (a := sl) (xs := bs.map V.ref)) (fun i σ H' => ∃ v11 v12, Same H8 H' ∧ σ = [some (.ref a), some (.ref p), some (.ref b'), some (.ref c), some (.int (14 + x65 % 7)), some (.ref y), some (.ref f), none, some (.ref sl), v9, v10, v11, v12, none])
        ⟨none, none, s9, rfl⟩ (fun i σ H' _ ⟨_, _, s', _⟩ => SqL.of (s' _ _ hslo)) ?_ ?_⟩
      · rintro i v σ H10 H11 hi ⟨v11, v12, s10, rfl⟩ ⟨rfl, ev⟩
        obtain ⟨u, ns, rfl, hu, hns, huo⟩ := (hbs.same s10).at ev
        have hmS := sets_all n h5 ns (List.mem_of_getElem? hns)
        have hcv := lp.cov ns hmS
        rw [hcs] at hcv
        have hfo10 := s10 _ _ hfo8
        have hrs10 := hrs8.same s10
        refine ⟨_, rfl, f, rfl, ⟨_, SqL.of hfo10⟩, fun D hD => lc_filt (walk_list (a := f) (xs := as7.map V.ref)) cs (fun c => conB ns c) (fun _ _ _ => True) (fun _ _ _ _ _ _ => trivial) hcl.symm ?_ hD (fun H' s' => SqL.of (s' _ _ hfo10)) ?_ ?_⟩
        · rw [hcl, ← hcs]
          have h1 := coM_len (ts := ts) (tbl := tbl) (hor := hor) (allS n (n + 1)) []
          have h2 := all_len n h5
          unfold coM
          simp only [List.length_nil] at h1
          omega
        · rintro j v k H12 H13 acc Kc Kf hk s12 hD12 ⟨rfl, hv⟩ hc' hf'
          obtain ⟨r, k', rfl, hr1, hr2, hr3⟩ := (hrs10.same s12).at hv
          rw [hk] at hr2
          cases hr2
          have hkm := lp.mem k (by rw [hcs]; exact List.mem_of_getElem? hk)
          refine ⟨rfl, ⟨_, rfl, _, rfl, u, r, ns, k, rfl, s12 _ _ huo, hr3, by have := (all_small n h5 k hkm).2; omega, fun H14 s14 => ⟨_, rfl, ite2 (fun c => ?_) (fun c => ?_)⟩⟩⟩
          · exact ⟨_, rfl, hc' c _ _ s14 trivial⟩
          · exact hf' (by simpa using c) _ s14
        · intro H12 ys s12 h1 h2 h3
          refine ⟨D, ys, rfl, .inl (SqL.of h1), _, _, rfl, rfl, ?_⟩
          have huo12 := s12 _ _ huo
          refine ⟨_, rfl, _, rfl, u, _, rfl, .inl (SqL.of huo12), fun l hl => ⟨_, rfl, rfl, rfl, ?_⟩⟩
          have s13 := Same.up (o := .lst (natV ns)) hl
          refine cl _ l ns _ (s10.trans (s12.trans s13)) hmS upd_same fun H15 s15 => ?_
          refine ⟨_, rfl, rfl, _, rfl, ite2 (fun c => ?_) (fun _ => ⟨_, _, s10.trans (s12.trans (s13.trans s15)), rfl⟩)⟩
          exfalso
          have c := of_decide_eq_true c
          injection c with c
          by_cases hh : trM (subT ts ns) tbl hor = "holds"
          · rw [decide_eq_true hh] at c
            have c' := of_decide_eq_true c.symm
            have hpos : 0 < (cs.filter fun c => conB ns c).length := by omega
            obtain ⟨d, hd'⟩ := List.exists_mem_of_length_pos hpos
            exact hcv.mp hh ⟨d, (List.mem_filter.mp hd').1, (List.mem_filter.mp hd').2⟩
          · rw [decide_eq_false hh] at c
            have c' := of_decide_eq_false c.symm
            refine hh (hcv.mpr fun ⟨d, hd1, hd2⟩ => c' ?_)
            have := List.length_pos_of_mem (List.mem_filter.mpr ⟨hd1, hd2⟩ : d ∈ cs.filter fun c => conB ns c)
            omega
      · rintro σ H10 ⟨v11, v12, s10, rfl⟩
        exact q _ (s18.trans s10)
end
end Nl
set_option maxHeartbeats 4000000
namespace Nl
open PySem PySem.Spec PyProof.Rows L2 NlH
/-! ### addresses and objects by names -/
def adTab : List (Str × (PySem.W.Frag → Addr)) := [("Miss.__init__", mAd "Miss" "__init__"), ("Task.__init__", mAd "Task" "__init__"), ("System.__init__", mAd "System" "__init__"), ("Task.kind_number", mAd "Task" "kind_number"), ("Task.cost", mAd "Task" "cost"), ("Task.ways_from", mAd "Task" "ways_from"), ("System.only", mAd "System" "only"), ("Undecided.__init__", mAd "Undecided" "__init__"), ("p.longest_distance", mAd "Task" "longest_distance"), ("Task.longest_distance", pAd "Task" "longest_distance"), ("p.latest_deadline", mAd "Task" "latest_deadline"), ("Task.latest_deadline", pAd "Task" "latest_deadline")]
def adF (K : PySem.W.Frag) (x : Str) : Addr := match adTab.lookup x with
  | some f => f K
  | none => gAd x K
theorem ad_g {K : PySem.W.Frag} {x : Str} (h : (adTab.lookup x).isNone = true) : adF K x = gAd x K := by
  unfold adF
  cases e : adTab.lookup x with
  | none => rfl
  | some f => rw [e] at h; cases h
theorem ad_m {K : PySem.W.Frag} {x : Str} {f : PySem.W.Frag → Addr} (h : adTab.lookup x = some f) : adF K x = f K := by
  unfold adF
  rw [h]
def fdAt (K : PySem.W.Frag) (a : Addr) : FuncData := match K.lookup a with
  | some ⟨_, _, .func fd, _⟩ => fd
  | _ => PySem.W.fnOf "" "" (defArgs sLaw) (defBody sLaw) (defScope sLaw) .none .none .none .none none .none .none
def fdF (K : PySem.W.Frag) (x : Str) : FuncData := fdAt K (adF K x)
theorem fun_at {K : PySem.W.Frag} {x q : Str} {st : Stmt} {f : Addr} {fd : FuncData} (F : Fun K x q st f fd) : Fun K x q st f (fdAt K f) := by
  obtain ⟨oc, od, kV, doc, pm, an, cdv, ct, osl, e, l, c⟩ := id F.ex
  have : fdAt K f = fd := by unfold fdAt; rw [l]
  rw [this]
  exact F
section
variable {K : PySem.W.Frag} {h : Heap} {mg : Str → Option Value}
theorem got (c : SaysN exT fnsAll K) {d : DefN} (m : d ∈ fnsAll) (hc : d.clo = none) : Fun K d.name d.qual d.st (d.adr K) (fdAt K (d.adr K)) := by
  obtain ⟨fd, F⟩ := DefN.fun_ (c.all m).1 (c.all m).2 hc
  exact fun_at F
theorem fact (c : SaysN exT fnsAll K) (i : Nat) {f : He.Fa} (e : faL[i]? = some f) : f.ok K = true := List.all_eq_true.mp (He.ba c.has).1 f (List.mem_of_getElem? e)
theorem fg_of {x : Str} {st : Stmt} (c : SaysN exT fnsAll K) (X : K.In h) (G : h.Ns mainGlobals mg) (i j : Nat) (hd : fnsAll[i]? = some ⟨gAd x, x, x, st, none⟩) (hf : faL[j]? = some (.glo x)) (ha : (adTab.lookup x).isNone = true) : FG K mg (adF K) (fdF K) x st := by
  have e := ad_g (K := K) ha
  refine ⟨?_, ?_⟩
  · unfold fdF
    rw [e]
    exact got c (List.mem_of_getElem? hd) rfl
  · rw [e]
    exact He.glo_ok X G (fact c j hf)
theorem fm_of {C m q : Str} {st : Stmt} (c : SaysN exT fnsAll K) (i j : Nat) (hd : fnsAll[i]? = some ⟨mAd C m, m, q, st, none⟩) (hf : faL[j]? = some (.meth C m)) (ha : (adTab.lookup C).isNone = true) (hq : adTab.lookup q = some (mAd C m)) : FM K (adF K) (fdF K) C m q st := by
  have e := ad_g (K := K) ha
  have e2 := ad_m (K := K) hq
  refine ⟨?_, ?_⟩
  · unfold fdF
    rw [e2]
    exact got c (List.mem_of_getElem? hd) rfl
  · rw [e, e2]
    exact He.meth_ok (fact c j hf)
theorem fc_of {C q : Str} {st : Stmt} (c : SaysN exT fnsAll K) (X : K.In h) (G : h.Ns mainGlobals mg) (i j : Nat) (hd : fnsAll[i]? = some ⟨mAd C "__init__", "__init__", q, st, none⟩) (h1 : faL[j]? = some (.glo C)) (h2 : faL[j + 1]? = some (.cls C)) (h3 : faL[j + 2]? = some (.mkr C)) (ha : (adTab.lookup C).isNone = true) (hq : adTab.lookup q = some (mAd C "__init__")) : FC K mg (adF K) (fdF K) C q st := by
  have e := ad_g (K := K) ha
  have e2 := ad_m (K := K) hq
  refine ⟨?_, ?_, ?_, ?_⟩
  · rw [e]
    exact He.glo_ok X G (fact c j h1)
  · rw [e]
    exact He.cls_ok (fact c (j + 1) h2)
  · rw [e, e2]
    exact He.mkr_ok (fact c (j + 2) h3)
  · unfold fdF
    rw [e2]
    exact got c (List.mem_of_getElem? hd) rfl
theorem na_of {C f : Str} (c : SaysN exT fnsAll K) (j : Nat) (hf : faL[j]? = some (.noat C f)) (ha : (adTab.lookup C).isNone = true) : NoAttr K (adF K C) f := by
  rw [ad_g (K := K) ha]
  exact He.noat_ok (fact c j hf)
theorem prop_of {f : Str} (hb : propB K f = true) : PropOf K (gAd "Task" K) f (mAd "Task" f K) (pAd "Task" f K) := by
  obtain ⟨h1, hb⟩ := He.ba hb
  obtain ⟨h2, hb⟩ := He.ba hb
  obtain ⟨h3, h4⟩ := He.ba hb
  refine ⟨He.eqO_ok h1, He.eqO_ok h2, of_decide_eq_true h3, ?_⟩
  unfold pAd
  show ∃ rest, PySem.W.recIn K (mAd "Task" f K) "property" = some (.ref (match PySem.W.recIn K (mAd "Task" f K) "property" with
    | some (.ref g :: _) => g
    | _ => 0) :: rest)
  split at h4
  · rename_i g rest e
    rw [e]
    exact ⟨rest, rfl⟩
  · cases h4
theorem tx_of (c : SaysN exT fnsAll K) (X : K.In h) (G : h.Ns mainGlobals mg) : Tx K mg (adF K) (fdF K) := by
  obtain ⟨hg, h2⟩ := He.ba (He.ba c.has).2
  obtain ⟨hp1, h3⟩ := He.ba h2
  obtain ⟨hp2, _⟩ := He.ba h3
  refine {
    rows := fg_of c X G 1 0 rfl rfl (by decide +kernel)
    ownWork := fg_of c X G 2 1 rfl rfl (by decide +kernel)
    bestContinuation := fg_of c X G 3 2 rfl rfl (by decide +kernel)
    demands := fg_of c X G 4 3 rfl rfl (by decide +kernel)
    systemDemands := fg_of c X G 5 4 rfl rfl (by decide +kernel)
    heaviest := fg_of c X G 6 5 rfl rfl (by decide +kernel)
    bestStep := fg_of c X G 7 6 rfl rfl (by decide +kernel)
    makeRatio := fg_of c X G 8 7 rfl rfl (by decide +kernel)
    compareRatios := fg_of c X G 9 8 rfl rfl (by decide +kernel)
    circuits := fg_of c X G 10 9 rfl rfl (by decide +kernel)
    extendPath := fg_of c X G 11 10 rfl rfl (by decide +kernel)
    circuitMean := fg_of c X G 12 11 rfl rfl (by decide +kernel)
    bestCircuit := fg_of c X G 13 12 rfl rfl (by decide +kernel)
    share := fg_of c X G 14 13 rfl rfl (by decide +kernel)
    supplyOfFirst := fg_of c X G 15 14 rfl rfl (by decide +kernel)
    supply := fg_of c X G 16 15 rfl rfl (by decide +kernel)
    wayWeight := fg_of c X G 17 16 rfl rfl (by decide +kernel)
    weights := fg_of c X G 18 17 rfl rfl (by decide +kernel)
    improve := fg_of c X G 19 18 rfl rfl (by decide +kernel)
    linearBound := fg_of c X G 20 19 rfl rfl (by decide +kernel)
    systemBound := fg_of c X G 21 20 rfl rfl (by decide +kernel)
    decisiveHorizon := fg_of c X G 22 21 rfl rfl (by decide +kernel)
    shift := fg_of c X G 23 22 rfl rfl (by decide +kernel)
    greatestDeadline := fg_of c X G 24 23 rfl rfl (by decide +kernel)
    greatestDistance := fg_of c X G 25 24 rfl rfl (by decide +kernel)
    rowGrowth := fg_of c X G 26 25 rfl rfl (by decide +kernel)
    comeRound := fg_of c X G 27 26 rfl rfl (by decide +kernel)
    rounds := fg_of c X G 28 27 rfl rfl (by decide +kernel)
    firstOverfull := fg_of c X G 30 28 rfl rfl (by decide +kernel)
    isDecided := fg_of c X G 31 29 rfl rfl (by decide +kernel)
    firstMiss := fg_of c X G 32 30 rfl rfl (by decide +kernel)
    isName := fg_of c X G 33 31 rfl rfl (by decide +kernel)
    areKinds := fg_of c X G 34 32 rfl rfl (by decide +kernel)
    areWays := fg_of c X G 35 33 rfl rfl (by decide +kernel)
    isTable := fg_of c X G 36 34 rfl rfl (by decide +kernel)
    trial := fg_of c X G 45 35 rfl rfl (by decide +kernel)
    canLive := fg_of c X G 46 36 rfl rfl (by decide +kernel)
    setsOf := fg_of c X G 47 37 rfl rfl (by decide +kernel)
    contains := fg_of c X G 48 38 rfl rfl (by decide +kernel)
    hasPart := fg_of c X G 49 39 rfl rfl (by decide +kernel)
    cores := fg_of c X G 50 40 rfl rfl (by decide +kernel)
    lawRow := fg_of c X G 51 41 rfl rfl (by decide +kernel)
    lawNumbers := fg_of c X G 52 42 rfl rfl (by decide +kernel)
    lawName := fg_of c X G 53 43 rfl rfl (by decide +kernel)
    lawTable := fg_of c X G 54 44 rfl rfl (by decide +kernel)
    lawKinds := fg_of c X G 55 45 rfl rfl (by decide +kernel)
    lawWays := fg_of c X G 56 46 rfl rfl (by decide +kernel)
    lawSpecs := fg_of c X G 57 47 rfl rfl (by decide +kernel)
    lawSystem := fg_of c X G 58 48 rfl rfl (by decide +kernel)
    lawFilled := fg_of c X G 59 49 rfl rfl (by decide +kernel)
    lawSets := fg_of c X G 60 50 rfl rfl (by decide +kernel)
    lawContains := fg_of c X G 61 51 rfl rfl (by decide +kernel)
    law := fg_of c X G 62 52 rfl rfl (by decide +kernel)
    missInit := fc_of c X G 29 53 rfl rfl rfl rfl (by decide +kernel) rfl
    taskInit := fc_of c X G 37 56 rfl rfl rfl rfl (by decide +kernel) rfl
    systemInit := fc_of c X G 43 59 rfl rfl rfl rfl (by decide +kernel) rfl
    taskKindNumber := fm_of c 40 63 rfl rfl (by decide +kernel) rfl
    taskCost := fm_of c 41 64 rfl rfl (by decide +kernel) rfl
    taskWaysFrom := fm_of c 42 65 rfl rfl (by decide +kernel) rfl
    systemOnly := fm_of c 44 66 rfl rfl (by decide +kernel) rfl
    b_len := He.free_ok X G (fact c 67 rfl)
    b_max := He.free_ok X G (fact c 68 rfl)
    b_min := He.free_ok X G (fact c 69 rfl)
    b_range := He.free_ok X G (fact c 70 rfl)
    b_enumerate := He.free_ok X G (fact c 71 rfl)
    b_sum := He.free_ok X G (fact c 72 rfl)
    b_abs := He.free_ok X G (fact c 73 rfl)
    b_int := He.free_ok X G (fact c 74 rfl)
    b_str := He.free_ok X G (fact c 75 rfl)
    b_list := He.free_ok X G (fact c 76 rfl)
    b_tuple := He.free_ok X G (fact c 77 rfl)
    b_all := He.free_ok X G (fact c 78 rfl)
    b_divmod := He.free_ok X G (fact c 79 rfl)
    b_super := He.free_ok X G (fact c 80 rfl)
    nTask_name := na_of c 81 rfl (by decide +kernel)
    nTask_kinds := na_of c 82 rfl (by decide +kernel)
    nTask_ways := na_of c 83 rfl (by decide +kernel)
    nSystem_tasks := na_of c 84 rfl (by decide +kernel)
    nSystem_table := na_of c 85 rfl (by decide +kernel)
    nMiss_instant := na_of c 86 rfl (by decide +kernel)
    nMiss_start := na_of c 87 rfl (by decide +kernel)
    nMiss_releases := na_of c 88 rfl (by decide +kernel)
    c_MOST_NAME_CHARS := He.int_ok X G (fact c 89 rfl)
    c_MOST_KINDS := He.int_ok X G (fact c 90 rfl)
    c_MOST_WAYS := He.int_ok X G (fact c 91 rfl)
    c_MOST_COST := He.int_ok X G (fact c 92 rfl)
    c_MOST_DEADLINE := He.int_ok X G (fact c 93 rfl)
    c_MOST_DISTANCE := He.int_ok X G (fact c 94 rfl)
    c_MOST_TASKS := He.int_ok X G (fact c 95 rfl)
    c_MOST_SLOTS := He.int_ok X G (fact c 96 rfl)
    c_MOST_CAPACITY := He.int_ok X G (fact c 97 rfl)
    c_NAME_CHARS := He.str_ok X G (fact c 98 rfl)
    gcd := PySem.W.mg_of X G (He.eqO_ok hg)
    pDist := by rw [ad_g (K := K) (x := "Task") (by decide +kernel), ad_m (K := K) (x := "p.longest_distance") rfl, ad_m (K := K) (x := "Task.longest_distance") rfl]; exact prop_of hp1
    fDist := by unfold fdF; rw [ad_m (K := K) (x := "Task.longest_distance") rfl]; exact got c (List.mem_of_getElem? (i := 38) rfl) rfl
    pDead := by rw [ad_g (K := K) (x := "Task") (by decide +kernel), ad_m (K := K) (x := "p.latest_deadline") rfl, ad_m (K := K) (x := "Task.latest_deadline") rfl]; exact prop_of hp2
    fDead := by unfold fdF; rw [ad_m (K := K) (x := "Task.latest_deadline") rfl]; exact got c (List.mem_of_getElem? (i := 39) rfl) rfl }

/-! ### Undecided -/
theorem clsX_ok {C : Addr} (q : clsXB K C = true) : ∃ nm qn N bs bm sn sub ab col dd k0 k1 k2 k3 k5, K.lookup C = some (excClassObj nm qn C N bs bm true sn sub ab col dd k0 k1 k2 k3 k5 "ValueError.__new__") ∧ PySem.HandSPX.refsVE bm = true := by
  unfold clsXB at q
  split at q
  · rename_i cv od cd sl ho
    obtain ⟨q1, q⟩ := He.ba q
    have q1 := of_decide_eq_true q1
    split at q
    · rename_i D bm a0 a1 a2 a3 nn a5 em es
      obtain ⟨q2, q⟩ := He.ba q
      obtain ⟨q3, q⟩ := He.ba q
      obtain ⟨q4, q⟩ := He.ba q
      obtain ⟨q5, q6⟩ := He.ba q
      have q2 := of_decide_eq_true q2
      have q3 := of_decide_eq_true q3
      obtain ⟨y1, y2, y3, y4, y5, y6, y7, y8, y9, y10, y11⟩ := cd
      dsimp only at em q4 q5
      have q5 : y11 = false := by simpa using q5
      have es2 : sl = #[a0, a1, a2, a3, some (.builtin nn), a5] := Array.ext' (by rw [es])
      subst q1 em q2 q3 q4 q5 es2
      exact ⟨_, _, _, _, bm, _, _, _, _, _, _, _, _, _, _, ho, q6⟩
    · cases q
  · cases q
theorem clo_ok {cl : List (Str × Addr)} {C : Str} (hq : cloB K cl (some C) = true) : ∃ cc ov od osl, cl = [(("__class__" : Str), cc)] ∧ K.lookup cc = some ⟨ov, od, .cell (some (.ref (He.ga K C))), osl⟩ := by
  unfold cloB at hq
  dsimp only at hq
  split at hq
  · rename_i x cc
    obtain ⟨h1, h2⟩ := He.ba hq
    have h1 := of_decide_eq_true h1
    split at h2
    · rename_i ov od D osl e
      have h2 := of_decide_eq_true h2
      subst h1 h2
      exact ⟨cc, _, _, _, rfl, e⟩
    · cases h2
  · cases hq
theorem und_of (c : SaysN exT fnsAll K) (X : K.In h) (G : h.Ns mainGlobals mg) : UT PySem.Challenge.rw_neverlate_k69_whole_cores_cover.prog K mg (adF K) := by
  obtain ⟨hg, h2⟩ := He.ba (He.ba c.has).2
  obtain ⟨hp1, h3⟩ := He.ba h2
  obtain ⟨hp2, h4⟩ := He.ba h3
  obtain ⟨hu1, h5⟩ := He.ba h4
  obtain ⟨hu2, hu3⟩ := He.ba h5
  obtain ⟨a1, hu1⟩ := He.ba hu1
  obtain ⟨a2, hu1⟩ := He.ba hu1
  obtain ⟨a3, hu1⟩ := He.ba hu1
  obtain ⟨a4, a5⟩ := He.ba hu1
  obtain ⟨b1, hu2⟩ := He.ba hu2
  obtain ⟨b2, hu2⟩ := He.ba hu2
  obtain ⟨b3, hu2⟩ := He.ba hu2
  obtain ⟨b4, hu2⟩ := He.ba hu2
  obtain ⟨b5, b6⟩ := He.ba hu2
  obtain ⟨d1, hu3⟩ := He.ba hu3
  obtain ⟨d2, hu3⟩ := He.ba hu3
  obtain ⟨d3, d4⟩ := He.ba hu3
  have e1 := ad_g (K := K) (x := "Undecided") (by decide +kernel)
  have e2 := ad_m (K := K) (x := "Undecided.__init__") (f := mAd "Undecided" "__init__") rfl
  show UndT _ K mg (adF K "Undecided") (adF K "Undecided.__init__")
  rw [e1, e2]
  refine ⟨He.glo_ok X G (fact c 62 rfl), He.free_ok X G (fact c 80 rfl), clsX_ok a1, He.eqO_ok a2, He.eqO_ok a3, He.eqO_ok a4, He.noat_ok (fact c 100 rfl), He.eqO_ok a5,
    of_decide_eq_true b1, b2, of_decide_eq_true b3, of_decide_eq_true b4, of_decide_eq_true b5, b6, He.exm_ok (fact c 99 rfl), He.eqO_ok d1, He.eqO_ok d2, of_decide_eq_true d3, by kernel_rfl, ?_⟩
  have m : dUndecidedInit ∈ fnsAll := List.mem_of_getElem? (i := 0) rfl
  obtain ⟨oc, od, kV, doc, pm, an, cdv, ct, cl, osl, hl, hcd, hcl, kp⟩ := DefN.raw (c.all m).1 (c.all m).2
  obtain ⟨cc, ov, od2, osl2, rfl, hcc⟩ := clo_ok hcl
  unfold fileB at d4
  rw [show K.lookup (mAd "Undecided" "__init__" K) = _ from hl] at d4
  dsimp only at d4
  split at d4
  · rename_i cda
    split at d4
    · rename_i ccl cdd vs ccs hv
      split at d4
      · rename_i file tf hf
        exact ⟨oc, kV, doc, pm, ct, ccl, ov, od, an, cdd, od2, osl, ccs, osl2, cda, cc, vs, file, tf, hl, hcd, hv, hf, d4, hcc⟩
      · cases d4
    · cases d4
  · cases d4
end
theorem sql_same {K : PySem.W.Frag} {H H' : Hp} {a : Addr} {xs : List V} (s : Same H H') (h : SqL K H a xs) : SqL K H' a xs := by
  rcases h with h | h
  · left
    rcases h with h | ⟨o, h⟩
    · exact .inl (s _ _ h)
    · exact .inr ⟨o, s _ _ h⟩
  · exact .inr h
theorem facts {w : World} {K : PySem.W.Frag} {h : Heap} {mg : Str → Option Value} {f : Addr} (X : K.In h) (G : h.Ns mainGlobals mg) (hfa : mg ("law" : Str) = some (.ref f)) (c : SaysN exT fnsAll K) :
    ∃ fd : FuncData, (∀ (s : Shared) (v : Value), BindsTo s fd ⟨[v], []⟩ [("_law_script", v)]) ∧ ∀ base : Heap, K.In base → base.Ns mainGlobals mg → FnOk PySem.Challenge.rw_neverlate_k69_whole_cores_cover.prog w K mg base CX0 22 f fd ["_law_script"] (spLaw K) := by
  have T := tx_of c X G
  have U := und_of c X G
  have e := hfa.symm.trans T.law.gl
  cases e
  obtain ⟨oc, od, kV, doc, pm, an, cdv, ct, osl, e, l, cd⟩ := id T.law.fn.ex
  refine ⟨fdF K "law", fun s v => ?_, fun base _ _ => ok_law T U⟩
  rw [e]
  exact BindsTo.of_eq rfl
end Nl
set_option maxHeartbeats 0
open PySem PySem.W PySem.Calls PyProof.Rows
theorem PySem.Challenge.cw_neverlate_k69_whole_cores_cover_holds : PySem.Challenge.rw_neverlate_k69_whole_cores_cover.Holds := by
  w_on; o_law
  refine HandSHeadRun.head_imp (r := OpenLaw.row PySem.Challenge.rw_neverlate_k69_whole_cores_cover) (q := view (OpenLaw.row PySem.Challenge.rw_neverlate_k69_whole_cores_cover).prog [0, 89]) (H := NlH.hk) (ob := NlH.ob) (M := 20000) (loose := NlH.looseA ++ NlH.looseB ++ NlH.looseC) (d := HandSHeadRun.topDef (OpenLaw.row PySem.Challenge.rw_neverlate_k69_whole_cores_cover).prog 89) (kwd := []) NlH.ob_eq
    NlH.run (by kernel_rfl) (by kernel_rfl) (by kernel_rfl) (by rfl) (by first | assumption | decide +kernel) (by decide +kernel) ⟨rfl, rfl, rfl, rfl, rfl, by decide +kernel⟩ ?hw ?hc
  case hw => w_witness2
  case hc =>
    refine L2.walk_ofE (l := PySem.Challenge.rw_neverlate_k69_whole_cores_cover) (n := 63) (k := 22) (x := "_law_script") (CX := L2.CX0) rfl (by decide) (by kernel_rfl) ⟨rfl, by decide, by decide⟩ ?F (fun _ _ _ _ z => z)
    intro w mg fa h Y G hmg0
    obtain ⟨K, KX, c⟩ := Y
    have hmg : mg ("law" : PySem.Str) = some (.ref fa) := by
      have e : (HandSHeadRun.topDef (OpenLaw.row PySem.Challenge.rw_neverlate_k69_whole_cores_cover).prog 89).name = ("law" : PySem.Str) := by kernel_rfl
      rw [← e]
      exact hmg0
    obtain ⟨fd, hb, hF⟩ := Nl.facts (w := w) KX G hmg c
    exact ⟨K, fd, Nl.spLaw K, KX, hb, fun H a ns hl _ hS => ⟨a, ns, rfl, hS, fun H' s => Nl.sql_same s hS, fun _ _ => rfl⟩, hF⟩
