import PyProof.Rows.All
import Wide.All
import OpenK.AllK
import Wide.FinOn
import HandS.Head0
import HandS.Head1
import HandS.Head2
import HandS.HeadEnd
import HandS.HeadHook1
import HandS.HeadHook2
import KE.KStateDown
import HandS.TupMul
import HandS.Dict
import KE.GoesMore
import KE.GoesEnum
import HandS.Iter
import HandS.Style
import HandS.List
import KE.KRevSl
import HandS.ForMost
import HandS.Deep
import HandS.TupAny
import HandS.Wide
import HandS.SortInts
import HandS.Flow
import KE.LtData
import KE.SortData
import PyProof.TupleOfSeq
import HandS.Conv
import HandS.Star
import HandS.IsInst
import KE.DataMinMax
import PyProof.P3In
import HandS.More
import HandS.WordsDict
import PyProof.ReprLen
import PySem.Challenge.RW_roundswaps_k22_heap_papers_judged
set_option Elab.async false
set_option linter.all false
set_option maxRecDepth 100000
set_option maxHeartbeats 0
namespace Pm
open PySem PySem.Spec PyProof.Rows L2
/-! ### tuple * k: the tuple itself, or the empty one -/
theorem tup_mul_same (l : Addr) (items : Array Value) (n : Nat) (dd : Option Addr) (sl : Array (Option Value)) (x : Int) (u : Tok) (c0 : (decide (x < -(2 ^ 63)) || decide (x ≥ 2 ^ 63)) = false) (c1 : (items.isEmpty || x == 1) = true) :
    Meets (Builtin.«tuple.__mul__» ⟨[.ref l, .int x u], []⟩) (fun _ R s => s.heap.get? l = some { cls := .type "tuple", dict := dd, data := .seq items n, slots := sl } ∧ R (.ok (.ret (Value.ref l))) s) :=
  .of_wp fun prog w A R s h => by
    obtain ⟨hp, g, d, tk, os⟩ := s
    obtain ⟨hl, h⟩ := h
    have f1 := AutoSeq1.idx_int
    have f2 := AutoSeq1.sub_tuple_tuple
    wp_walk using wpAny_loadPart' hl
    repeat (first
      | (refine wpAny_ite_false (decide_eq_false (by rw [c0]; exact Bool.false_ne_true)) ?_; wp_walk using wpAny_loadPart' hl)
      | (refine wpAny_ite_true (decide_eq_true c1) ?_; wp_walk using wpAny_loadPart' hl))
    exact ⟨_, rfl, h⟩
theorem tup_mul_none (l : Addr) (items : Array Value) (n : Nat) (dd : Option Addr) (sl : Array (Option Value)) (x : Int) (u : Tok) (c0 : (decide (x < -(2 ^ 63)) || decide (x ≥ 2 ^ 63)) = false) (c1 : (items.isEmpty || x == 1) = false) (c2 : (decide (x ≤ 0) || items.isEmpty) = true) :
    Meets (Builtin.«tuple.__mul__» ⟨[.ref l, .int x u], []⟩) (fun _ R s => s.heap.get? l = some { cls := .type "tuple", dict := dd, data := .seq items n, slots := sl } ∧
      R (.ok (.ret (Value.ref s.heap.objs.size))) { s with heap := s.heap.push { cls := Value.type "tuple", data := Data.seq #[] }, toks := s.toks }) :=
  .of_wp fun prog w A R s h => by
    obtain ⟨hp, g, d, tk, os⟩ := s
    obtain ⟨hl, h⟩ := h
    have f1 := AutoSeq1.idx_int
    wp_walk using wpAny_loadPart' hl
    repeat (first
      | (refine wpAny_ite_false (decide_eq_false (by rw [c0]; exact Bool.false_ne_true)) ?_; wp_walk using wpAny_loadPart' hl)
      | (refine wpAny_ite_false (decide_eq_false (by rw [c1]; exact Bool.false_ne_true)) ?_; wp_walk using wpAny_loadPart' hl)
      | (refine wpAny_ite_true (decide_eq_true c2) ?_; wp_walk using wpAny_loadPart' hl))
    exact ⟨_, rfl, h⟩
/-- a tuple repeated at most once, or an empty one -/
def rRepS (K : PySem.W.Frag) : R2 := fun x y H Q => ∃ l k xs, x = .ref l ∧ y = .int k ∧ SqT K H l xs ∧ -9223372036854775808 ≤ k ∧ k < 9223372036854775808 ∧
  ((xs = [] ∨ k = 1) ∧ Q (.ref l) H ∨ k ≤ 0 ∧ xs ≠ [] ∧ ∀ p, H p = none → Q (.ref p) (upd H p (.tup [])))
theorem op_repS {X : Cx} : OpR X (binaryOp .Mult) (rRepS X.K) := by
  intro pins s σ H x y v u Q I rx ry h
  obtain ⟨l, k, xs, rfl, rfl, hT, h1, h2, q⟩ := h
  cases rx
  obtain ⟨t, rfl⟩ := ry
  obtain ⟨its, r, ⟨⟨cls, dd, data, sl⟩, ho, hc, n, hd⟩, hs⟩ := I.tuple hT
  simp only at hc hd
  subst hc hd
  have hle : its.length = xs.length := r.length.symm
  have c0 : (decide (k < -(2 ^ 63)) || decide (k ≥ 2 ^ 63)) = false := by
    rw [decide_eq_false (by omega), decide_eq_false (by omega)] <;> rfl
  refine wpAny_binaryOp_repeat_ref (T := "tuple") (U := "int") (by decide) ⟨_, ho, rfl⟩ (fun s' => typeIs_int s' k t) noFill_tuple_mul F.fills_int_mul F.slot_int_rmul repeat_tuple F.slot_int_index.lookup
    (call_meets F.slot_int_rmul (typeIs_int s k t) F.entry_int_rmul (F.args_int_rmul_2 _ _) (int_rmul_tuple k t l its.toArray n dd sl) ⟨ho, rfl, ⟨_, ho, rfl⟩, ?_⟩)
  have he : its.toArray.isEmpty = true ↔ xs = [] := by
    cases xs with
    | nil => simp at hle; subst hle; simp
    | cons a b => cases its with
      | nil => simp at hle
      | cons c d => simp
  by_cases hk : xs = [] ∨ k = 1
  · have c1 : (its.toArray.isEmpty || k == 1) = true := by
      rcases hk with hk | hk
      · rw [he.mpr hk]; rfl
      · subst hk; simp
    refine call_meets F.slot_tuple_mul ⟨_, ho, rfl⟩ F.entry_tuple_mul (F.args_tuple_mul_2 _ _) (tup_mul_same l its.toArray n dd sl k t c0 c1) ⟨ho, ?_⟩
    rcases q with ⟨_, q⟩ | ⟨k0, hx, _⟩
    · exact ⟨.ref l, H, I, rfl, q⟩
    · rcases hk with hk | hk
      · exact absurd hk hx
      · omega
  · rcases q with ⟨k0, _⟩ | ⟨k0, hx, q⟩
    · exact absurd k0 hk
    have hie : its.toArray.isEmpty = false := by
      cases z : its.toArray.isEmpty with
      | false => rfl
      | true => exact absurd (he.mp z) hx
    have c1 : (its.toArray.isEmpty || k == 1) = false := by
      rw [hie, Bool.false_or]
      exact beq_eq_false_iff_ne.mpr (by omega)
    have c2 : (decide (k ≤ 0) || its.toArray.isEmpty) = true := by
      rw [decide_eq_true k0]; rfl
    refine call_meets F.slot_tuple_mul ⟨_, ho, rfl⟩ F.entry_tuple_mul (F.args_tuple_mul_2 _ _) (tup_mul_none l its.toArray n dd sl k t c0 c1 c2) ⟨ho, ?_⟩
    refine ⟨.ref s.heap.objs.size, _, I.laid (t' := s.toks) (o := .tup []) (fun b ob q => Heap.get?_push_of_some _ q) (Nat.le_refl _) ?_, rfl, q _ (I.hok.fresh (Nat.le_refl _))⟩
    exact ⟨Nat.zero_le _, [], .nil, IsTup.new _ _⟩
end Pm
namespace Pm
open PySem PySem.Spec PyProof.Rows L2 PySem.W
/-! ### enumerate(t), t a tuple -/
theorem enum_new {v : Value} {o : Obj} {Hp0 : Heap → Prop} (B : Begins v o Hp0) :
    Meets (Builtin.«enumerate.__new__» ⟨[.type "enumerate", v], []⟩) (fun _ R s => Hp0 s.heap ∧
      R (.ok (.ret (.ref (s.heap.push o).objs.size))) { s with heap := (s.heap.push o).push { cls := .type "enumerate", data := .fields #[.none, .bool false, .ref s.heap.objs.size, rawInt 0, .none, .none] } }) :=
  .of_wp fun prog w A R s h => by
    obtain ⟨hp, gl, dd, tk, os⟩ := s
    obtain ⟨hb, h⟩ := h
    have sub := sub_enumerate
    have it1 : ∀ {A' : Around} {E' : Value → Shared → Prop} {Q' : Value → Shared → Prop}, Q' (.ref hp.objs.size) ⟨hp.push o, gl, dd, tk, os⟩ → wpAny (model prog w) A' (pyIter v) Q' E' ⟨hp, gl, dd, tk, os⟩ :=
      fun q => B.iter prog w _ _ ⟨hp, gl, dd, tk, os⟩ _ hb q
    wp_walk using it1
    refine wpAny_stack_any fun stk => wpAny_pure ?_
    split
    · rename_i cl _ _ _ _ _
      cases (cl == Value.type "enumerate")
      · wp_walk using it1
        exact ⟨_, rfl, h⟩
      · wp_walk using it1
        exact ⟨_, rfl, h⟩
    · wp_walk using it1
      exact ⟨_, rfl, h⟩
section
variable {prog : Program} {w : World} {A : Around} {E : Value → Shared → Prop} {s : Shared}
theorem enum_call {v : Value} {o : Obj} {Hp0 : Heap → Prop} {Q : Value → Shared → Prop} (B : Begins v o Hp0) (hb : Hp0 s.heap)
    (h : ∀ h2, IsEnum h2 (s.heap.objs.size + 1) s.heap.objs.size 0 .none → h2.get? s.heap.objs.size = some o → h2.objs.size = s.heap.objs.size + 2 →
      (∀ b u, s.heap.get? b = some u → h2.get? b = some u) → Q (.ref (s.heap.objs.size + 1)) { s with heap := h2 }) :
    wpAny (model prog w) A (call (.type "enumerate") [v]) Q E s := by
  refine callType_new F.called_enumerate (by decide) (F.typeCall_enumerate_1 _) (F.newCall_enumerate_1 _) (fun ob => F.args_object_init_2 ob _) F.entry_enumerate_new (enum_new B) ⟨hb, ?_⟩
  have sz : (s.heap.push o).objs.size = s.heap.objs.size + 1 := Heap.size_push ..
  show _ ∧ _
  rw [sz]
  have isE : IsEnum ((s.heap.push o).push { cls := .type "enumerate", data := .fields #[.none, .bool false, .ref s.heap.objs.size, rawInt 0, .none, .none] }) (s.heap.objs.size + 1) s.heap.objs.size 0 .none := by
    have q := Heap.get?_push_size (s.heap.push o) (o := { cls := .type "enumerate", data := .fields #[.none, .bool false, .ref s.heap.objs.size, rawInt 0, .none, .none] }) rfl
    rw [sz] at q
    exact q
  exact ⟨⟨_, isE, rfl⟩, h _ isE (Heap.get?_push_of_some _ (Heap.get?_push_size _ B.free)) (by rw [Heap.size_push, sz]) fun b u e => Heap.get?_push_of_some _ (Heap.get?_push_of_some _ e)⟩
end
section
variable {prog : Program} {w : World} {A : Around} {E : Value → Shared → Prop} {s : Shared}
theorem enum_endT {e it t : Addr} {i : Nat} {items : Array Value} {old : Value} {Q : Option Value → Shared → Prop} (hh : A.handled = none) (isE : IsEnum s.heap e it i old) (isI : s.heap.IsTupleIter it t i) (ht : s.heap.IsTuple t items) (hx : items[i]? = none)
    (hQ : ∀ h2, Heap.ExtBut it s.heap h2 → Q none { s with heap := h2 }) : wpAny (model prog w) A (pyNext (.ref e)) Q E s := by
  have isT : s.TypeIs (.ref e) "enumerate" := ⟨_, isE, rfl⟩
  unfold pyNext
  refine wpAny_bind (wpAny_attempt (wpAny_callSpecial?_slot (name := Str.ofString "__next__") isT F.slot_enumerate_next
    (wpAny_call_entry F.slot_enumerate_next isT F.entry_enumerate_next ?_ (F.args_enumerate_next_1 _))))
  show wpAny _ _ (field (.ref e) 2 >>= _) _ _ _
  refine wpAny_bind (wpAny_field isE rfl (x := .ref it) rfl ?_)
  refine wpAny_bind (wpAny_nextOf_tuple_end hh isI ht hx fun h2 x ext hx2 => ?_)
  obtain ⟨ob, ho, hc⟩ := hx2
  refine wpAny_bind (wpAny_isInstance (T := "StopIteration") (b := true) ⟨ob, ho, hc⟩ isSubtype_stop ?_)
  exact wpAny_pure (hQ _ ext)
end
/-- the tuple at a as it stands, each item in a new pair -/
def Iet (K : PySem.W.Frag) (a : Addr) : It :=
  ⟨fun i H => ∃ (xs : List V) (x : V), SqT K H a xs ∧ xs[i]? = some x, fun i H v H' => ∃ T x, v = .ref T ∧ H T = none ∧ H' = upd H T (.tup [.int (i : Nat), x]) ∧ ∀ xs, SqT K H a xs → xs[i]? = some x, fun i H => ∃ xs : List V, SqT K H a xs ∧ xs.length ≤ i⟩
theorem turn_et {P : Program} {w : World} {K : PySem.W.Frag} {elts : List Expr} {kk : Nat} {tpos : Pos} (a e it : Addr) :
    Turn P w K (.Tuple elts kk tpos) (Iet K a) [e, it] e (fun i h => (∃ old, IsEnum h e it ((i : Nat) : Int) old) ∧ h.IsTupleIter it a i ∧ e ≠ it) where
  mem := by simp
  obj := fun i h st b hb => by
    obtain ⟨⟨old, he⟩, ⟨o, ho, hc, hd⟩, _⟩ := st
    rcases (show b = e ∨ b = it by simpa using hb) with rfl | rfl
    · exact ⟨_, he, fun v q => nomatch q⟩
    · exact ⟨o, ho, fun v q => by rw [hd] at q; cases q⟩
  keep := fun i h h' st k => by
    obtain ⟨⟨old, he⟩, hi, hne⟩ := st
    exact ⟨⟨old, k e (by simp) _ he⟩, hi.at fun o q => k it (by simp) o q, hne⟩
  item := by
    intro X hP hw hK hc i pins s σ H E I fr st go
    subst hP hw hK
    obtain ⟨⟨old, isE⟩, isI, hne⟩ := st
    obtain ⟨xs, x, sq, hx⟩ := go
    obtain ⟨us, rv, tup, hz⟩ := I.tuple sq
    obtain ⟨u, hu, ru⟩ := rv.get hx
    have le : e < s.heap.objs.size := Heap.lt_size isE
    have li : it < s.heap.objs.size := by obtain ⟨_, q, _⟩ := isI; exact Heap.lt_size q
    have hai : a ≠ it := by
      intro q
      subst q
      obtain ⟨o1, e1, c1, _⟩ := isI
      obtain ⟨o2, e2, c2, _⟩ := tup
      rw [e1] at e2
      cases e2
      rw [c1] at c2
      simp at c2
    have hea : e ≠ a := by
      intro q
      subst q
      obtain ⟨o2, e2, c2, _⟩ := tup
      rw [show s.heap.get? e = some _ from isE] at e2
      cases e2
      simp at c2
    have hlt : i < us.toArray.size := by
      obtain ⟨q, _⟩ := List.getElem?_eq_some_iff.mp hu
      simpa using q
    refine wpAny_pyNext_enum_itemD (Draws.tuple (A := X.A.in1) (show X.A.in1.handled = none from I.ok.hd hc) it a hai us.toArray) isE ⟨isI, tup⟩ hlt hne (by simp; exact ⟨hne, hea⟩) fun y h1 tk hy ho isI' hT hsz hk => ?_
    have hy : us[i]? = some y := by simpa using hy
    rw [hu] at hy
    cases hy
    refine ⟨_, rfl, wpAny_letOwnedTupleGo_enum (s := { s with heap := h1, toks := tk + 1 }) ho fun h2 he2 sb => ?_⟩
    have hT2 : h2.get? s.heap.objs.size = some { cls := .type "tuple", data := .seq #[.int i tk, u] } := (sb.2 _ (Nat.ne_of_gt le)).trans hT
    have new : ObjOk X.prog X.w (upd H s.heap.objs.size (.tup [.int (i : Nat), x])) h2 s.heap.objs.size (.tup [.int (i : Nat), x]) :=
      ⟨by show 2 ≤ sizeLine; decide, [.int i tk, u], .cons ⟨_, rfl⟩ (.cons ru .nil), ⟨_, hT2, rfl, _, rfl⟩⟩
    have I1 : Inv X pins σ (upd H s.heap.objs.size (.tup [.int (i : Nat), x])) { s with heap := h2, toks := tk + 1 } :=
      I.turnedNew (ch := [e, it]) (fun b ob hb q => (sb.2 b (fun z => hb (by simp [z]))).trans (hk b ob (fun z => hb (by simp [z])) (fun z => hb (by simp [z])) q)) fr (Nat.le_refl _) new
    refine ⟨.ref s.heap.objs.size, _, I1, rfl, ⟨_, x, rfl, I.hok.fresh (Nat.le_refl _), rfl, fun ys hy => by rw [I.tuple_inj hy sq]; exact hx⟩, ⟨⟨u, ?_⟩, isI'.1.at fun o q => (sb.2 it (Ne.symm hne)).trans q, hne⟩, fun b hb => ?_⟩
    · rw [show ((i + 1 : Nat) : Int) = (i : Int) + 1 by omega]
      exact he2
    · have lb : b < s.heap.objs.size := by
        rcases (show b = e ∨ b = it by simpa using hb) with rfl | rfl
        · exact le
        · exact li
      rw [upd_ne (Nat.ne_of_lt lb)]
      exact (fr b hb).1
  done := by
    intro X hP hw hK hc i pins s σ H E I fr st go
    subst hP hw hK
    obtain ⟨⟨old, isE⟩, isI, hne⟩ := st
    obtain ⟨xs, sq, hx⟩ := go
    obtain ⟨us, rv, tup, hz⟩ := I.tuple sq
    obtain ⟨f0, f1, f2, f3, f4, f5⟩ := fr it (by simp)
    have hl := rv.length
    have hai : a ≠ it := by
      intro q
      subst q
      obtain ⟨o1, e1, c1, _⟩ := isI
      obtain ⟨o2, e2, c2, _⟩ := tup
      rw [e1] at e2
      cases e2
      rw [c1] at c2
      simp at c2
    exact enum_endT (I.ok.hd hc) isE isI tup (by simp; omega) fun h' eb => ⟨rfl, I.turned (t' := s.toks) (fun b o hb q => eb b o hb q) f0 f1 f3 f4 f5⟩
  self := fun A i s Q E st h => by
    obtain ⟨⟨_, he⟩, _⟩ := st
    exact wpAny_pyIter_enum he h
section
variable {X : Cx}
def iEn2 (K : PySem.W.Frag) (ta : TA) : TI := fun σ H R => ta σ H fun vs H1 => ∃ a xs, vs = [.ref a] ∧ SqT K H1 a xs ∧ R (Iet K a) H1
theorem pi_et {e : Expr} {ta : TA} {p pos tpos : Pos} {elts : List Expr} {kk : Nat} (hg : Gl X "enumerate") (hm : X.mg "enumerate" = none) (ha : PA X [e] ta) (hs : starEach [e] X.env = [(false, eval e X.env)]) :
    PI X (.Tuple elts kk tpos) (.Call (.Name "enumerate" p) [e] [] pos) (iEn2 X.K ta) := by
  refine ⟨fun pins s σ H R I h => ?_⟩
  refine Call_ (ld_blt I hg hm boot_enumerate (PyProof.Rows.callWith_type1 (thn (ha.run pos pins s σ H _ I h) fun us s1 ⟨vs, H1, I1, r1, q1⟩ => ?_) hs rfl))
  obtain ⟨a, xs, rfl, sq, q⟩ := q1
  cases r1 with
  | cons r rr =>
    cases rr
    cases r
    obtain ⟨us, rv, tup, hz⟩ := I1.tuple sq
    refine enum_call (begins_tuple a us.toArray) tup fun h2 isE hit hsz hk => wpAny_pyIter_enum isE ?_
    have I2 : Inv X pins σ H1 { s1 with heap := h2 } := I1.kept (t' := s1.toks) hk
    refine ⟨s1.heap.objs.size + 1, [s1.heap.objs.size + 1, s1.heap.objs.size], _, _, H1, rfl, I2, turn_et a (s1.heap.objs.size + 1) s1.heap.objs.size, ⟨⟨.none, isE⟩, ⟨_, hit, rfl, rfl⟩, Nat.succ_ne_self _⟩, fun b hb => ?_, q⟩
    have le : s1.heap.objs.size ≤ b := by
      rcases (show b = s1.heap.objs.size + 1 ∨ b = s1.heap.objs.size by simpa using hb) with rfl | rfl
      · exact Nat.le_add_right _ _
      · exact Nat.le_refl _
    exact I1.fpOk le (I1.hok.fresh le)
end
end Pm
namespace Pm
open PySem PySem.Spec PyProof.Rows L2 HT
/-! ### t[::-1], t a tuple -/
section
variable {prog : Program} {w : World} {A : Around} {E : Value → Shared → Prop} {s : Shared}
theorem adj_rev (n : Nat) : Builtin.Slice.sliceAdjust none none (-1) (n : Int) = ((n : Int) - 1, -1) := by
  unfold Builtin.Slice.sliceAdjust
  simp
theorem plc_rev (n : Nat) : Builtin.Slice.slicePlaces ((n : Int) - 1) (-1) (-1) = n := by
  unfold Builtin.Slice.slicePlaces
  simp only [show ¬ ((-1 : Int) > 0) by decide, if_false]
  by_cases h : (n : Int) - 1 > -1
  · rw [if_pos h, show (- -1 : Int) = 1 by decide, Int.ediv_one]; omega
  · rw [if_neg h]; omega
theorem fm_same {α β : Type} {f g : α → Option β} : ∀ l : List α, (∀ x ∈ l, f x = g x) → l.filterMap f = l.filterMap g
  | [], _ => rfl
  | x :: l, h => by
    rw [List.filterMap_cons, List.filterMap_cons, h x List.mem_cons_self, fm_same l fun y hy => h y (List.mem_cons_of_mem _ hy)]
theorem pick_rev (xs : Array Value) : ((List.range xs.size).filterMap fun (k : Nat) => xs[((xs.size : Int) - 1 + (k : Int) * (-1)).toNat]?).toArray = xs.toList.reverse.toArray := by
  have e : (fun (k : Nat) => xs[((xs.size : Int) - 1 + (k : Int) * (-1)).toNat]?) = fun k : Nat => xs[((xs.size : Int) - 1 + (k : Int) * (-1)).toNat]? := rfl
  have key : ∀ k, k < xs.size → ((xs.size : Int) - 1 + (k : Int) * (-1)).toNat = xs.size - 1 - k := fun k hk => by omega
  have h1 : ((List.range xs.size).filterMap fun (k : Nat) => xs[((xs.size : Int) - 1 + (k : Int) * (-1)).toNat]?) = (((List.range xs.size).map fun k => xs.size - 1 - k).filterMap (xs[·]?)) := by
    rw [List.filterMap_map]
    refine fm_same _ fun k hk => ?_
    rw [key k (List.mem_range.mp hk)]
    rfl
  rw [h1, PySem.W.krv_range, List.filterMap_reverse, PySem.W.krv_all]
theorem app_rev {sl : Addr} {vl vu vs : Value} {n : Nat} {Q : Int × Int × Nat → Shared → Prop} (hs : s.heap.IsSliceOf sl vl vu vs) (pl : IsPart vl none) (pu : IsPart vu none) (ps : IsPart vs (some (-1)))
    (h : Q ((n : Int) - 1, -1, n) s) : wpAny (model prog w) A (Builtin.Slice.sliceApplied (.ref sl) (pure (n : Int))) Q E s := by
  obtain ⟨ob, ho, hc, hd⟩ := id hs
  unfold Builtin.Slice.sliceApplied Builtin.Slice.sliceFields
  refine wpAny_bind (wpAny_bind (wpAny_field ho hd (x := vl) rfl (wpAny_bind (wpAny_field ho hd (x := vu) rfl (wpAny_bind (wpAny_field ho hd (x := vs) rfl (wpAny_pure ?_)))))))
  refine wpAny_bind (slicePart_ ps ?_)
  show wpAny _ _ (if ((-1 : Int) == 0) = true then _ else _) _ _ s
  rw [if_neg (by decide)]
  refine wpAny_bind (slicePart_ pl (wpAny_bind (slicePart_ pu (wpAny_bind (wpAny_pure ?_)))))
  show wpAny _ _ (match Builtin.Slice.sliceAdjust none none (-1) (n : Int) with | (lo, hi) => pure (lo, (-1 : Int), Builtin.Slice.slicePlaces lo hi (-1))) _ _ s
  rw [adj_rev n]
  show wpAny _ _ (pure ((n : Int) - 1, (-1 : Int), Builtin.Slice.slicePlaces ((n : Int) - 1) (-1) (-1))) _ _ s
  rw [plc_rev]
  exact wpAny_pure h
theorem item_rev {t sl : Addr} {items : Array Value} {vl vu vs : Value} {Q : Value → Shared → Prop} (ht : IsTup s.heap t items) (hs : s.heap.IsSliceOf sl vl vu vs) (pl : IsPart vl none) (pu : IsPart vu none) (ps : IsPart vs (some (-1)))
    (h : Q (.ref s.heap.objs.size) { s with heap := s.heap.push { cls := .type "tuple", data := .seq items.toList.reverse.toArray } }) (hz : items.size ≤ sizeLine) : wpAny (model prog w) A (getItem (.ref t) (.ref sl)) Q E s := by
  have ok : sizeOk (.seq items.toList.reverse.toArray) := by
    show items.toList.reverse.toArray.size ≤ sizeLine
    rw [List.size_toArray, List.length_reverse, Array.length_toList]
    exact hz
  obtain ⟨ob, ho, hc, hd⟩ := id hs
  have hT : s.TypeIs (.ref sl) "slice" := ⟨ob, ho, hc⟩
  unfold getItem
  try with_reducible refine wpAny_holding ?_
  first | refine wpAny_bind (wpAny_pure ?_) | skip
  refine wpAny_bind (wpAny_sequenceKey ht.typeIs (by decide) ?_)
  refine wpAny_bind (wpAny_callSpecial?_slot (name := Str.ofString "__getitem__") ht.typeIs PyProof.Rows.slot_tuple_getitem
    (wpAny_call_entry PyProof.Rows.slot_tuple_getitem ht.typeIs entry_tuple_getitem ?_ (args_tuple_getitem _ _)))
  show wpAny _ _ (Builtin.Tuple.tupleItemsOf (.ref t) >>= _) _ _ s
  refine wpAny_bind (tupleItemsOf_ ht ?_)
  refine wpAny_bind (wpAny_typeOf hT ?_)
  rw [if_pos (by decide)]
  refine wpAny_bind (app_rev hs pl pu ps ?_)
  have no : ¬ (((items.size : Int) - 1 == 0 && (-1 : Int) == 1 && items.size == items.size) = true) := by simp
  show wpAny _ _ (if ((items.size : Int) - 1 == 0 && (-1 : Int) == 1 && items.size == items.size) = true then _ else _) _ _ s
  rw [if_neg no, pick_rev]
  first
    | exact wpAny_bind (m := Builtin.Tuple.tupleExact _) (wpAny_newObj_type (wpAny_pure ⟨_, rfl, wpAny_pure h⟩) ok)
    | exact wpAny_bind (m := Builtin.Tuple.tupleExact _) (wpAny_newObj_type (wpAny_bind (wpAny_pure (wpAny_pure ⟨_, rfl, wpAny_pure h⟩))) ok)
    | exact wpAny_bind (wpAny_bind (m := Builtin.Tuple.tupleExact _) (wpAny_newObj_type (wpAny_pure (wpAny_pure ⟨_, rfl, wpAny_pure h⟩)) ok))
    | exact wpAny_bind (wpAny_bind (m := Builtin.Tuple.tupleExact _) (wpAny_newObj_type (wpAny_pure ⟨_, rfl, wpAny_pure h⟩) ok))
end
/-- x[::-1], x a list or a tuple -/
def tRevX (K : PySem.W.Frag) (te : TE) : TE := fun σ H Q => te σ H fun x H1 => ∃ a xs, x = .ref a ∧ ((SqL K H1 a xs ∧ ∀ p, H1 p = none → Q (.ref p) (upd H1 p (.lst xs.reverse))) ∨ (SqT K H1 a xs ∧ ∀ p, H1 p = none → Q (.ref p) (upd H1 p (.tup xs.reverse))))
theorem pe_revX {X : Cx} {e : Expr} {te : TE} {k : Nat} {p1 p2 p3 pos : Pos} (he : PE X e te) : PE X (.Subscript e (.Slice none none (some (.UnaryOp .USub (.Constant (.int 1) k p1) p2)) p3) pos) (tRevX X.K te) := by
  refine ⟨fun pins s σ H Q I h => ?_⟩
  refine Subscript_ (thn (he.run pins s σ H _ I h) fun v s1 ⟨x, H1, I1, r1, q1⟩ => ?_)
  obtain ⟨a, xs, rfl, q⟩ := q1
  cases r1
  have st : PO X (some (.UnaryOp .USub (.Constant (.int 1) k p1) p2)) (tPart (tUn (rU fun i => .int (-i)) (tC (.int 1)))) := po_some (pe_un un_neg pe_int)
  refine wpAny_Slice (thn (po_none.run pins s1 σ H1 (fun o H2 => o = none ∧ H2 = H1) I1 ⟨rfl, rfl⟩) fun vl s2 ⟨l, H2, I2, pl, el, e2⟩ => ?_)
  obtain rfl := el
  obtain rfl := e2
  refine thn (po_none.run pins s2 σ H2 (fun o H3 => o = none ∧ H3 = H2) I2 ⟨rfl, rfl⟩) fun vu s3 ⟨u, H3, I3, pu, eu, e3⟩ => ?_
  obtain rfl := eu
  obtain rfl := e3
  refine thn (st.run pins s3 σ H3 (fun o H4 => o = some (-1) ∧ H4 = H3) I3 ⟨1, rfl, -1, rfl, rfl, rfl⟩) fun vs s4 ⟨o, H4, I4, ps, eo, e4⟩ => ?_
  obtain rfl := eo
  obtain rfl := e4
  have I5 : Inv X pins σ H4 { s4 with heap := s4.heap.push { cls := .type "slice", data := .fields #[vl, vu, vs] } } := I4.kept (t' := s4.toks) fun b ob q => Heap.get?_push_of_some _ q
  show wpAny (model X.prog X.w) X.A (subscriptTail e (.Slice none none (some (.UnaryOp .USub (.Constant (.int 1) k p1) p2)) p3) (.ref a) (.ref s4.heap.objs.size)) (EP X pins σ Q) X.xe { s4 with heap := s4.heap.push { cls := .type "slice", data := .fields #[vl, vu, vs] } }
  rcases q with ⟨hx, q⟩ | ⟨hx, q⟩
  · obtain ⟨its, r, ht, hz⟩ := I5.list hx
    have hl := r.length
    refine tail_any (ops := [.ref a, .ref s4.heap.objs.size]) ht.isList.typeIs (PySem.slot_list_getitem.lookup) ?_ (by with_unfolding_all rfl)
    refine wpAny_getItem_list_slice ht.isList (Heap.IsSliceOf.new _ vl vu vs) pl pu ps (by decide) ?_ (by rw [List.size_toArray]; omega)
    rw [PySem.W.krv_pick]
    refine ⟨.ref _, _, I5.laid (t' := s4.toks) (o := .lst xs.reverse) (fun b ob q => Heap.get?_push_of_some _ q) (Nat.le_refl _) ?_, rfl, q _ (I5.hok.fresh (Nat.le_refl _))⟩
    exact ⟨by rw [List.length_reverse]; exact hz, _, 0, r.reverse, Heap.get?_push_size _ rfl⟩
  · obtain ⟨its, r, ht, hz⟩ := I5.tuple hx
    have hl := r.length
    refine tail_any (ops := [.ref a, .ref s4.heap.objs.size]) ht.typeIs (PyProof.Rows.slot_tuple_getitem.lookup) ?_ (by with_unfolding_all rfl)
    refine item_rev ht (Heap.IsSliceOf.new _ vl vu vs) pl pu ps ?_ (by rw [List.size_toArray]; omega)
    refine ⟨.ref _, _, I5.laid (t' := s4.toks) (o := .tup xs.reverse) (fun b ob q => Heap.get?_push_of_some _ q) (Nat.le_refl _) ?_, rfl, q _ (I5.hok.fresh (Nat.le_refl _))⟩
    exact ⟨by rw [List.length_reverse]; exact hz, _, r.reverse, IsTup.new _ _⟩
end Pm
/-! A small evaluator with pure values for the part of Python that the program is written in. -/
namespace Pm
open PySem
abbrev D := PyData
/-- 2 ^ 24 -/
abbrev SL : Nat := 16777216
/-- what a name holds: nothing, a value that nobody changes any more, a list (a dict) of the frame's own, a list under a running for, the source of draws -/
inductive SV where
  | un | v (d : D) | own (xs : List D) | lock (xs : List D) | dk (kvs : List (L2.Key × D)) | dt (kvs : List (List L2.Key × D)) | src
/-- what an expression gives: a value, a new list, a list of the frame's own as it stands, .. -/
inductive R where
  | v (d : D) | fr (xs : List D) | bo (xs : List D) | src
  | it (xs : List D) | st (xs : List D)
  | nk (kvs : List (L2.Key × D)) | nt (kvs : List (List L2.Key × D)) | bk (kvs : List (L2.Key × D)) | bt (kvs : List (List L2.Key × D))
structure SS where
  cells : List Int
  left : Int
  mixed : Int
  turn : Int
/-- the source's numbers -/
inductive SK where | left | mixed | turn
  deriving DecidableEq
def SS.get (s : SS) : SK → Int
  | .left => s.left
  | .mixed => s.mixed
  | .turn => s.turn
def SS.put (s : SS) : SK → Int → Option SS
  | .left, i => if 0 ≤ i then some { s with left := i } else none
  | .mixed, i => some { s with mixed := i }
  | .turn, i => if 0 ≤ i then some { s with turn := i } else none
inductive AV where
  | v (d : D) | src
abbrev Fn := List AV → SS → Option (R × SS)
def AV.sv : AV → SV
  | .v d => .v d
  | .src => .src
inductive BOp where | add | sub | mul | fdiv | mod | pow
  deriving DecidableEq
inductive COp where | eq | ne | lt | le | gt | ge | isin | notin | isn | notn | isb (b : Bool) | notb (b : Bool)
  deriving DecidableEq
inductive Bi where | len | int | abs | max2 | min2 | max1 | min1 | sum | all | any | list | tuple | sorted | repr | isint | isbool | istuple | isstr | islist | comb | fact | dict
  deriving DecidableEq
inductive Me where | index | count | get1 | get2 | items | keys
  deriving DecidableEq
inductive TGt where
  | one (i : Nat) | tup (ts : List TGt)
inductive CE where
  | lit (d : D)
  | loc (i : Nat)
  | glo (x : Str) (d : D)
  | bin (o : BOp) (a b : CE)
  | neg (a : CE)
  | not (a : CE)
  | and (a b : CE)
  | or (a b : CE)
  | cmp (o : COp) (a b : CE)
  | cmp2 (o p : COp) (a b c : CE)
  | ife (c a b : CE)
  | tup (es : List CE)
  | lst (es : List CE)
  | star (e : CE)
  | lc (elt : CE) (tg : TGt) (it : CE) (cond : List CE)
  | rg1 (a : CE) | rg2 (a b : CE) | rg3 (a b c : CE)
  | enm (a : CE) | zip (a b : CE)
  | dof (s : Bool) (a : CE)
  | idx (a i : CE)
  | sli (a lo hi : CE)
  | nop
  | rev (a : CE)
  | bi (f : Bi) (es : List CE)
  | met (m : Me) (o : CE) (es : List CE)
  | call (x : Str) (f : Fn) (es : List CE)
  | newk | newt
  | dhas (b : Bool) (k : CE) (i : Nat)
  | dget (i : Nat) (k : CE)
  | dget2 (i : Nat) (k d : CE)
  | sget (k : SK) (i : Nat)
  | slen (i : Nat)
inductive CS where
  | set (i : Nat) (e : CE)
  | unp (t : TGt) (e : CE)
  | par (js : List Nat) (es : List CE)
  | sto (i : Nat) (k e : CE)
  | sto2 (i : Nat) (k : CE) (j : Nat) (l : CE) (e f : CE)
  | aug (i : Nat) (o : BOp) (e : CE)
  | augs (i : Nat) (k : CE) (o : BOp) (e : CE)
  | app (i : Nat) (e : CE)
  | ext (i : Nat) (e : CE)
  | popS (j i : Nat) (k : CE)
  | exp (e : CE)
  | ite (c : CE) (a b : List CS)
  | forr (t : TGt) (it : CE) (body : List CS)
  | whl (c : CE) (body : List CS)
  | ret (e : CE)
  | retn
  | frz (i : Nat)
  | kill (js : List Nat)
  | never
  | dput (i : Nat) (k e : CE)
  | sput (k : SK) (i : Nat) (e : CE)
  | spop (i : Nat)
  | appPop (i j : Nat) (e : CE)
  | rmix (r s lap : Nat) (x : Str) (f : Fn)
/-! ### operations on values -/
def rd : R → Option D
  | .v d => some d
  | .fr xs => some (.list xs)
  | .bo xs => some (.list xs)
  | _ => none
def esc : R → Option D
  | .v d => some d
  | .fr xs => some (.list xs)
  | _ => none
def addD : D → D → Option R
  | .int i, .int j => some (.v (.int (i + j)))
  | .tuple a, .tuple b => if a.length + b.length ≤ SL then some (.v (.tuple (a ++ b))) else none
  | .list a, .list b => if a.length + b.length ≤ SL then some (.fr (a ++ b)) else none
  | .str a, .str b => if a.length + b.length ≤ SL then some (.v (.str (a ++ b))) else none
  | _, _ => none
def subD : D → D → Option R
  | .int i, .int j => some (.v (.int (i - j)))
  | _, _ => none
def mulD : D → D → Option R
  | .int i, .int j => if i.natAbs < 18446744073709551616 ∨ j.natAbs < 18446744073709551616 ∨ i.natAbs.log2 + j.natAbs.log2 < 1000000 then some (.v (.int (i * j))) else none
  | .list xs, .int k => if -9223372036854775808 ≤ k ∧ k < 9223372036854775808 ∧ xs.length * k.toNat ≤ SL then some (.fr (List.replicate k.toNat xs).flatten) else none
  | .tuple xs, .int k => if (-9223372036854775808 ≤ k ∧ k < 9223372036854775808) ∧ (k ≤ 1 ∨ xs.length = 0 ∨ (k ≤ 1000 ∧ xs.length ≤ 1000)) then some (.v (.tuple (List.replicate k.toNat xs).flatten)) else none
  | _, _ => none
def fdivD : D → D → Option R
  | .int i, .int j => if 0 < j ∧ j.natAbs.log2 < 9000 then some (.v (.int (i / j))) else none
  | _, _ => none
def modD : D → D → Option R
  | .int i, .int j => if 0 < j then some (.v (.int (i % j))) else none
  | _, _ => none
def powD : D → D → Option R
  | .int i, .int j => if 0 ≤ j ∧ j ≤ 1000000 ∧ i.natAbs < 18446744073709551616 then some (.v (.int (i ^ j.toNat))) else none
  | _, _ => none
def binD : BOp → D → D → Option R
  | .add => addD
  | .sub => subD
  | .mul => mulD
  | .fdiv => fdivD
  | .mod => modD
  | .pow => powD
def eqD (a b : D) : Option Bool :=
  match a, b with
  | .int i, .int j => some (i == j)
  | .str x, .str y => some (x == y)
  | a, b => if SeqAt.shaped a = true ∧ SeqAt.shaped b = true then some (PyData.eqv a b) else none
def isNone : D → Bool
  | .none => true
  | _ => false
def flatD : D → Bool
  | .none | .bool _ | .int _ | .str _ => true
  | _ => false
def inD (a b : D) : Option Bool :=
  match b with
  | .list xs => if SeqAt.shaped a = true ∧ SeqAt.shaped (.list xs) = true then some (xs.any fun z => PyData.eqv z a) else none
  | .tuple xs => if flatD a = true ∧ xs.all flatD = true then some (xs.any fun z => PyData.eqv z a) else none
  | _ => none
def ordD (f : Int → Int → Bool) : D → D → Option Bool
  | .int i, .int j => some (f i j)
  | _, _ => none
def cmpD : COp → D → D → Option Bool
  | .eq, a, b => eqD a b
  | .ne, a, b => (eqD a b).map (!·)
  | .lt, a, b => ordD (fun i j => decide (i < j)) a b
  | .le, a, b => ordD (fun i j => decide (i ≤ j)) a b
  | .gt, a, b => ordD (fun i j => decide (j < i)) a b
  | .ge, a, b => ordD (fun i j => decide (j ≤ i)) a b
  | .isin, a, b => inD a b
  | .notin, a, b => (inD a b).map (!·)
  | .isn, a, _ => some (isNone a)
  | .notn, a, _ => some (!isNone a)
  | .isb c, .bool b, _ => some (b == c)
  | .notb c, .bool b, _ => some (!(b == c))
  | .isb _, _, _ => none
  | .notb _, _, _ => none
/-- the place of an index of any sign -/
abbrev ixN := L2.ixN
def idxD : D → D → Option D
  | .list xs, .int i => (ixN xs.length i).bind fun j => xs[j]?
  | .tuple xs, .int i => (ixN xs.length i).bind fun j => xs[j]?
  | _, _ => none
def sIx (n d : Nat) : D → Option Nat
  | .none => some d
  | .int v => some (if v < 0 then (v + (n : Int)).toNat else min v.toNat n)
  | _ => none
def cut (xs : List D) (lo hi : D) : Option (List D) :=
  match sIx xs.length 0 lo, sIx xs.length xs.length hi with
  | some a, some b => some ((xs.drop a).take (b - a))
  | _, _ => none
def sliD (x lo hi : D) : Option R :=
  match x with
  | .list xs => (cut xs lo hi).map .fr
  | .tuple xs => (cut xs lo hi).map fun ys => .v (.tuple ys)
  | _ => none
def intsL : List D → Option (List Int)
  | [] => some []
  | .int i :: r => (intsL r).map (i :: ·)
  | _ :: _ => none
def boolsL : List D → Option (List Bool)
  | [] => some []
  | .bool i :: r => (boolsL r).map (i :: ·)
  | _ :: _ => none
def insI (x : Int) : List Int → List Int
  | [] => [x]
  | y :: r => if x ≤ y then x :: y :: r else y :: insI x r
def sortI : List Int → List Int
  | [] => []
  | x :: r => insI x (sortI r)
mutual
/-- x < y, for data that are alike -/
def ltD : D → D → Bool
  | .bool a, .bool b => !a && b
  | .int i, .int j => decide (i < j)
  | .str x, .str y => decide (x.cps.toList < y.cps.toList)
  | .list xs, .list ys => ltsD xs ys
  | .tuple xs, .tuple ys => ltsD xs ys
  | _, _ => false
def ltsD : List D → List D → Bool
  | [], [] => false
  | [], _ :: _ => true
  | _ :: _, [] => false
  | x :: xs, y :: ys => if PyData.eqv x y then ltsD xs ys else ltD x y
end
def insD (x : D) : List D → List D
  | [] => [x]
  | y :: r => if ltD y x then y :: insD x r else x :: y :: r
def sortD : List D → List D
  | [] => []
  | x :: r => insD x (sortD r)
def neTup : D → Bool
  | .tuple (_ :: _) => true
  | _ => false
def noTup : D → Bool
  | .tuple _ => false
  | .none => false
  | _ => true
def intTup : D → Bool
  | .tuple (x :: xs) => (intsL (x :: xs)).isSome
  | _ => false
/-- they can be sorted -/
def sortable (xs : List D) : Bool := (intsL xs).isSome || xs.all intTup || ((xs.all fun x => xs.all fun y => PySem.W.alike x y) && (xs.all neTup || xs.all noTup) && xs.all fun x => decide (x.depth ≤ 64))
def maxI : Int → List Int → Int
  | m, [] => m
  | m, x :: r => maxI (if m < x then x else m) r
def minI : Int → List Int → Int
  | m, [] => m
  | m, x :: r => minI (if x < m then x else m) r
def seqOf : D → Option (List D)
  | .list xs => some xs
  | .tuple xs => some xs
  | _ => none
/-- no list, no dict within -/
def lf : D → Bool
  | .list _ => false
  | .dict _ => false
  | .tuple xs => lfs xs
  | _ => true
where lfs : List D → Bool
  | [] => true
  | x :: r => lf x && lfs r
def R.lf : R → Bool
  | .v d => Pm.lf d
  | .fr xs => lf.lfs xs
  | .src => true
  | _ => false
def fact : Nat → Nat
  | 0 => 1
  | n + 1 => (n + 1) * fact n
/-- how many lots of k out of n -/
def comb : Nat → Nat → Nat
  | _, 0 => 1
  | 0, _ + 1 => 0
  | n + 1, k + 1 => comb n k + comb n (k + 1)
def lenD : List D → Option R
  | [.list xs] => some (.v (.int xs.length))
  | [.tuple xs] => some (.v (.int xs.length))
  | _ => none
def intD : List D → Option R
  | [.int i] => some (.v (.int i))
  | [.bool b] => some (.v (.int (if b then 1 else 0)))
  | _ => none
def absD : List D → Option R
  | [.int i] => some (.v (.int (if i < 0 then -i else i)))
  | _ => none
def max2D : List D → Option R
  | [.int i, .int j] => some (.v (.int (if j > i then j else i)))
  | _ => none
def min2D : List D → Option R
  | [.int i, .int j] => some (.v (.int (if j < i then j else i)))
  | _ => none
def max1D : List D → Option R
  | [.list xs] => match intsL xs with
    | some (m :: r) => some (.v (.int (maxI m r)))
    | _ => none
  | [.tuple xs] => match intsL xs with
    | some (m :: r) => some (.v (.int (maxI m r)))
    | _ => none
  | _ => none
def min1D : List D → Option R
  | [.list xs] => match intsL xs with
    | some (m :: r) => some (.v (.int (minI m r)))
    | _ => none
  | _ => none
def sumD : List D → Option R
  | [.list xs] => (intsL xs).map fun is => .v (.int is.sum)
  | _ => none
def allD : List D → Option R
  | [.list xs] => (boolsL xs).map fun bs => .v (.bool (bs.all id))
  | _ => none
def anyD : List D → Option R
  | [.list xs] => (boolsL xs).map fun bs => .v (.bool (bs.any id))
  | _ => none
def listD : List D → Option R
  | [x] => (seqOf x).map .fr
  | _ => none
def tupleD : List D → Option R
  | [x] => (seqOf x).map fun xs => .v (.tuple xs)
  | _ => none
def sortedD : List D → Option R
  | [x] => (seqOf x).bind fun xs => if sortable xs = true then some (.fr (sortD xs)) else none
  | _ => none
def reprD : List D → Option R
  | [x] => if x.showable = true ∧ x.shown.length ≤ SL ∧ x.depth ≤ 64 then some (.v (.str x.shown)) else none
  | _ => none
def tag : D → String
  | .none => "NoneType"
  | .bool _ => "bool"
  | .int _ => "int"
  | .str _ => "str"
  | .list _ => "list"
  | .tuple _ => "tuple"
  | .dict _ => "dict"
def isTs (a T : String) : Bool := a == T || (a == "bool" && T == "int")
def isT (T : String) (d : D) : Bool := isTs (tag d) T
def isTD (T : String) : List D → Option R
  | [x] => some (.v (.bool (isT T x)))
  | _ => none
def biD : Bi → List D → Option R
  | .len => lenD
  | .int => intD
  | .abs => absD
  | .max2 => max2D
  | .min2 => min2D
  | .max1 => max1D
  | .min1 => min1D
  | .sum => sumD
  | .all => allD
  | .any => anyD
  | .list => listD
  | .tuple => tupleD
  | .sorted => sortedD
  | .repr => reprD
  | .isint => isTD "int"
  | .isbool => isTD "bool"
  | .istuple => isTD "tuple"
  | .isstr => isTD "str"
  | .islist => isTD "list"
  | _ => fun _ => none
def findIx (p : D → Bool) : List D → Nat → Option Nat
  | [], _ => none
  | x :: r, i => if p x then some i else findIx p r (i + 1)
def meD : Me → D → List D → Option R
  | .index, .list xs, [y] => if SeqAt.shaped (.list xs) = true ∧ SeqAt.shaped y = true then (findIx (fun z => PyData.eqv z y) xs 0).map (fun (i : Nat) => R.v (.int i)) else none
  | .count, .list xs, [y] => if SeqAt.shaped (.list xs) = true ∧ SeqAt.shaped y = true then some (.v (.int (xs.countP fun z => PyData.eqv z y : Nat))) else none
  | _, _, _ => none
/-! ### dicts of ints and texts -/
def keyOf : D → Option L2.Key
  | .int i => some (.inl i)
  | .str x => some (.inr x)
  | _ => none
def kGet (kvs : List (L2.Key × D)) (k : L2.Key) : Option D := (kvs.find? fun p => decide (p.1 = k)).map (·.2)
def kPut (kvs : List (L2.Key × D)) (k : L2.Key) (d : D) : List (L2.Key × D) :=
  if (kvs.any fun p => decide (p.1 = k)) = true then kvs.map (fun p => if p.1 = k then (p.1, d) else p) else kvs ++ [(k, d)]
def rangeD (a b : Int) : List D := (List.range (b - a).toNat).map fun (i : Nat) => .int (a + i)
def enumD (xs : List D) : List D := (List.range xs.length).zipWith (fun (i : Nat) x => .tuple [.int i, x]) xs
def slR : SV → Option R
  | .v d => some (.v d)
  | .own xs => some (.bo xs)
  | .lock xs => some (.bo xs)
  | .src => some .src
  | .dk k => some (.bk k)
  | .dt k => some (.bt k)
  | .un => none
def getR (sl : List SV) (i : Nat) : Option R := sl[i]?.bind slR
def setS (sl : List SV) (i : Nat) (s : SV) : Option (List SV) := if i < sl.length then some (sl.set i s) else none
def killS : List Nat → List SV → List SV
  | [], sl => sl
  | j :: js, sl => (killS js sl).set j .un
mutual
def TGt.slots : TGt → List Nat
  | .one i => [i]
  | .tup ts => TGt.slotss ts
def TGt.slotss : List TGt → List Nat
  | [] => []
  | t :: ts => t.slots ++ TGt.slotss ts
end
mutual
def bindT : TGt → D → List SV → Option (List SV)
  | .one i, d, sl => setS sl i (.v d)
  | .tup ts, .tuple ds, sl => bindTs ts ds sl
  | .tup _, _, _ => none
def bindTs : List TGt → List D → List SV → Option (List SV)
  | [], [], sl => some sl
  | t :: ts, d :: ds, sl => (bindT t d sl).bind fun sl => bindTs ts ds sl
  | _, _, _ => none
end
/-- a comprehension's turns -/
def lcD (f : D → SS → Option (Option D × SS)) : List D → SS → Option (List D × SS)
  | [], ss => some ([], ss)
  | d :: ds, ss => match f d ss with
    | some (some y, ss) => (lcD f ds ss).map fun p => (y :: p.1, p.2)
    | some (none, ss) => lcD f ds ss
    | none => none
def asB : R → Option Bool
  | .v (.bool b) => some b
  | _ => none
def isBo : R → Bool
  | .bo _ => true
  | _ => false
def toA : R → Option AV
  | .v d => some (.v d)
  | .fr xs => some (.v (.list xs))
  | .bo xs => some (.v (.list xs))
  | .src => some .src
  | _ => none
def toAs : List R → Option (List AV)
  | [] => some []
  | r :: rs => (toA r).bind fun a => (toAs rs).map (a :: ·)
def rds : List R → Option (List D)
  | [] => some []
  | r :: rs => (rd r).bind fun a => (rds rs).map (a :: ·)
/-- what a def may hand back -/
def isOut : R → Bool
  | .v _ | .fr _ | .src => true
  | _ => false
def callD (f : Fn) (rs : List R) (ss : SS) : Option (R × SS) :=
  (toAs rs).bind fun as => (f as ss).bind fun p => if isOut p.1 = true ∧ (rs.any isBo = true → p.1.lf = true) then some p else none
abbrev O (α : Type) := Option (α × SS)
def O.f {α β : Type} (f : α → Option β) (x : O α) : O β := x.bind fun p => (f p.1).map fun d => (d, p.2)
/-- to be read at once -/
def toD (x : O R) : O D := x.f rd
/-- to be kept -/
def toE (x : O R) : O D := x.f esc
def toB (x : O R) : O Bool := x.f asB
def itR : R → Option (List D)
  | .it xs => some xs
  | r => (rd r).bind seqOf
def toI (x : O R) : O (List D) := x.f itR
def toDs (x : O (List R)) : O (List D) := x.f rds
def dispR : List R → Option (List D)
  | [] => some []
  | .st xs :: r => (dispR r).map (xs ++ ·)
  | x :: r => (esc x).bind fun d => (dispR r).map (d :: ·)
def toX (x : O (List R)) : O (List D) := (x.f dispR).bind fun p => if p.1.length ≤ SL then some p else none
def condR : List R → Option Bool
  | [] => some true
  | r :: _ => asB r
def toC (x : O (List R)) : O Bool := x.f condR
def rg1D : D → Option R
  | .int i => if -4611686018427387904 ≤ i ∧ i ≤ 16777216 then some (.it (rangeD 0 i)) else none
  | _ => none
def rg2D : D → D → Option R
  | .int i, .int j => if (-4611686018427387904 ≤ i ∧ i < 4611686018427387904 ∧ -4611686018427387904 ≤ j ∧ j < 4611686018427387904) ∧ j - i ≤ 16777216 then some (.it (rangeD i j)) else none
  | _, _ => none
def revD : D → Option R
  | .list xs => some (.fr xs.reverse)
  | .tuple xs => some (.v (.tuple xs.reverse))
  | _ => none
def negD : D → Option R
  | .int i => some (.v (.int (-i)))
  | _ => none
def enD : D → Option R
  | .list xs => some (.it (enumD xs))
  | .tuple xs => some (.it (enumD xs))
  | _ => none
def zipD : D → D → Option R
  | x, y => (seqOf x).bind fun xs => (seqOf y).map fun ys => .it (xs.zipWith (fun x y => .tuple [x, y]) ys)
def bl (b : Bool) : R := .v (.bool b)
def isNop : CE → Bool
  | .nop => true
  | _ => false
def rdInt (r : R) : Option D := match rd r with
  | some (.int i) => some (.int i)
  | _ => none
/-- a part of a slice: left out, or an int -/
def toP (c : CE) (x : O R) : O D := match isNop c with
  | true => x.f rd
  | false => x.f rdInt
/-- the dict at a slot, a key of it -/
def dkAt (sl : List SV) (i : Nat) : Option (List (L2.Key × D)) :=
  match sl[i]? with
  | some (.dk kvs) => some kvs
  | _ => none
def dhasD (b : Bool) (sl : List SV) (i : Nat) (k : D) : Option R := (dkAt sl i).bind fun kvs => (keyOf k).map fun k => bl ((kGet kvs k).isSome == b)
def dgetD (sl : List SV) (i : Nat) (k : D) : Option R := (dkAt sl i).bind fun kvs => (keyOf k).bind fun k => (kGet kvs k).map .v
def dget2D (sl : List SV) (i : Nat) (k d : D) : Option R := (dkAt sl i).bind fun kvs => (keyOf k).map fun k => .v ((kGet kvs k).getD d)
def dputD (sl : List SV) (i : Nat) (k d : D) : Option (List SV) := (dkAt sl i).bind fun kvs => (keyOf k).bind fun k => if kvs.length < SL then some (sl.set i (.dk (kPut kvs k d))) else none
/-- dict(pairs), asked for its keys ascending (s), or for how many they are -/
def pairKs : List D → Option (List L2.Key)
  | [] => some []
  | .tuple [k, _] :: r => (keyOf k).bind fun k => (pairKs r).map (k :: ·)
  | _ :: _ => none
def kAdd (ks : List L2.Key) (k : L2.Key) : List L2.Key := if (ks.any fun q => decide (q = k)) = true then ks else ks ++ [k]
def kSet (ks : List L2.Key) : List L2.Key := ks.foldl kAdd []
def keysI : List L2.Key → Option (List Int)
  | [] => some []
  | .inl i :: r => (keysI r).map (i :: ·)
  | _ :: _ => none
def dofD (s : Bool) : D → Option R
  | .list xs => (pairKs xs).bind fun ks => match s with
    | false => some (.v (.int (kSet ks).length))
    | true => (keysI (kSet ks)).bind fun is => if is.length < 64 then some (.fr ((sortI is).map .int)) else none
  | _ => none
def isSrc (sl : List SV) (i : Nat) : Bool :=
  match sl[i]? with
  | some .src => true
  | _ => false
mutual
def ev : CE → List SV → SS → O R
  | .lit d, _, ss => some (.v d, ss)
  | .glo _ d, _, ss => some (.v d, ss)
  | .loc i, sl, ss => (getR sl i).map fun r => (r, ss)
  | .bin o a b, sl, ss => (toD (ev a sl ss)).bind fun p => (toD (ev b sl p.2)).bind fun q => (binD o p.1 q.1).map fun r => (r, q.2)
  | .neg a, sl, ss => (toD (ev a sl ss)).f negD
  | .not a, sl, ss => (toB (ev a sl ss)).bind fun p => some (bl (!p.1), p.2)
  | .and a b, sl, ss => (toB (ev a sl ss)).bind fun p => if p.1 then (toB (ev b sl p.2)).bind fun q => some (bl q.1, q.2) else some (bl false, p.2)
  | .or a b, sl, ss => (toB (ev a sl ss)).bind fun p => if p.1 then some (bl true, p.2) else (toB (ev b sl p.2)).bind fun q => some (bl q.1, q.2)
  | .cmp o a b, sl, ss => (toD (ev a sl ss)).bind fun p => (toD (ev b sl p.2)).bind fun q => (cmpD o p.1 q.1).map fun r => (bl r, q.2)
  | .cmp2 o o' a b c, sl, ss => (toD (ev a sl ss)).bind fun p => (toD (ev b sl p.2)).bind fun q => (cmpD o p.1 q.1).bind fun r =>
      if r then (toD (ev c sl q.2)).bind fun t => (cmpD o' q.1 t.1).map fun r => (bl r, t.2) else some (bl false, q.2)
  | .ife c a b, sl, ss => (toB (ev c sl ss)).bind fun p => if p.1 then ev a sl p.2 else ev b sl p.2
  | .tup es, sl, ss => (toX (evs es sl ss)).bind fun p => some (.v (.tuple p.1), p.2)
  | .lst es, sl, ss => (toX (evs es sl ss)).bind fun p => some (.fr p.1, p.2)
  | .lc elt tg it cond, sl, ss => (toI (ev it sl ss)).bind fun p => (lcD (fun d ss => (bindT tg d (killS tg.slots sl)).bind fun sl' => (toC (evs cond sl' ss)).bind fun q =>
      if q.1 then (toE (ev elt sl' q.2)).bind fun t => some (some t.1, t.2) else some (none, q.2)) p.1 p.2).bind fun q => if p.1.length ≤ SL then some (.fr q.1, q.2) else none
  | .idx a i, sl, ss => (toD (ev a sl ss)).bind fun p => (toD (ev i sl p.2)).bind fun q => (idxD p.1 q.1).map fun d => (.v d, q.2)
  | .sli a lo hi, sl, ss => (toD (ev a sl ss)).bind fun p => (toP lo (ev lo sl p.2)).bind fun q => (toP hi (ev hi sl q.2)).bind fun t => (sliD p.1 q.1 t.1).map fun r => (r, t.2)
  | .nop, _, ss => some (.v .none, ss)
  | .rev a, sl, ss => (toD (ev a sl ss)).f revD
  | .bi f es, sl, ss => (toDs (evs es sl ss)).f (biD f)
  | .met m o es, sl, ss => (toD (ev o sl ss)).bind fun p => (toDs (evs es sl p.2)).bind fun q => (meD m p.1 q.1).map fun r => (r, q.2)
  | .call _ f es, sl, ss => (evs es sl ss).bind fun p => callD f p.1 p.2
  | .newk, _, ss => some (.nk [], ss)
  | .newt, _, ss => some (.nt [], ss)
  | .dhas b k i, sl, ss => (toD (ev k sl ss)).f (dhasD b sl i)
  | .dget i k, sl, ss => (toD (ev k sl ss)).f (dgetD sl i)
  | .dget2 i k d, sl, ss => (toD (ev k sl ss)).bind fun p => (toE (ev d sl p.2)).bind fun q => (dget2D sl i p.1 q.1).map fun r => (r, q.2)
  | .star e, sl, ss => (toI (ev e sl ss)).bind fun p => some (.st p.1, p.2)
  | .rg1 a, sl, ss => (toD (ev a sl ss)).f rg1D
  | .rg2 a b, sl, ss => (toD (ev a sl ss)).bind fun p => (toD (ev b sl p.2)).bind fun q => (rg2D p.1 q.1).map fun r => (r, q.2)
  | .rg3 _ _ _, _, _ => none
  | .enm a, sl, ss => (toD (ev a sl ss)).f enD
  | .dof s a, sl, ss => (toD (ev a sl ss)).f (dofD s)
  | .zip a b, sl, ss => (toD (ev a sl ss)).bind fun p => (toD (ev b sl p.2)).bind fun q => (zipD p.1 q.1).map fun r => (r, q.2)
  | .sget k i, sl, ss => match isSrc sl i with
    | true => some (.v (.int (ss.get k)), ss)
    | false => none
  | .slen i, sl, ss => match isSrc sl i with
    | true => some (.v (.int ss.cells.length), ss)
    | false => none
def evs : List CE → List SV → SS → O (List R)
  | [], _, ss => some ([], ss)
  | e :: es, sl, ss => (ev e sl ss).bind fun p => (evs es sl p.2).bind fun q => some (p.1 :: q.1, q.2)
end
inductive Out where
  | nx (sl : List SV) (ss : SS)
  | rt (r : R) (ss : SS)
def toS : R → Option SV
  | .v d => some (.v d)
  | .fr xs => some (.own xs)
  | .src => some .src
  | .nk k => some (.dk k)
  | .nt k => some (.dt k)
  | _ => none
def setAll : List Nat → List SV → List SV → Option (List SV)
  | [], [], sl => some sl
  | j :: js, s :: r, sl => (setS sl j s).bind fun sl => setAll js r sl
  | _, _, _ => none
def toSs : List R → Option (List SV)
  | [] => some []
  | r :: rs => (toS r).bind fun a => (toSs rs).map (a :: ·)
def ownL : Option SV → Option (List D)
  | some (.own xs) => some xs
  | _ => none
def Out.of (x : Option (List SV)) (ss : SS) : Option Out := x.map fun sl => .nx sl ss
/-- x[k] = d on a list of one's own -/
def stoD (sl : List SV) (i : Nat) (k : D) (d : D) : Option (List SV) :=
  match sl[i]?, k with
  | some (.own xs), .int k => (ixN xs.length k).map fun j => sl.set i (.own (xs.set j d))
  | _, _ => none
def popAt (last : Bool) (xs : List D) (d : D) : Option (D × List D) :=
  match last with
  | true => xs.getLast?.map fun d => (d, xs.dropLast)
  | false => match d with
    | .int k => if -4611686018427387904 ≤ k ∧ k < 4611686018427387904 then (ixN xs.length k).bind fun j => xs[j]?.map fun d => (d, xs.eraseIdx j) else none
    | _ => none
def lockS (sl : List SV) (i : Nat) : List SV :=
  match sl[i]? with
  | some (.own xs) => sl.set i (.lock xs)
  | _ => sl
def isOwn (sl : List SV) (i : Nat) : Bool :=
  match sl[i]? with
  | some (.own _) => true
  | _ => false
def unlockS (b : Bool) (sl : List SV) (i : Nat) : List SV :=
  match b, sl[i]? with
  | true, some (.lock xs) => sl.set i (.own xs)
  | _, _ => sl
def frzS (sl : List SV) (i : Nat) : List SV :=
  match sl[i]? with
  | some (.own xs) => sl.set i (.v (.list xs))
  | _ => sl
/-- the turns of a for -/
def forD (f : D → List SV → SS → Option Out) : List D → List SV → SS → Option Out
  | [], sl, ss => some (.nx sl ss)
  | d :: ds, sl, ss => match f d sl ss with
    | some (.nx sl ss) => forD f ds sl ss
    | r => r
/-- the turns of a while -/
def whD (c : List SV → SS → O Bool) (f : List SV → SS → Option Out) : Nat → List SV → SS → Option Out
  | 0, _, _ => none
  | n + 1, sl, ss => (c sl ss).bind fun p => if p.1 then (match f sl p.2 with
      | some (.nx sl ss) => whD c f n sl ss
      | r => r) else some (.nx sl p.2)
/-- what a for walks is no list of one's own, or by its name -/
def noBo : CE → Bool
  | .loc _ => false
  | .ife _ _ _ => false
  | .enm a => noBo a
  | .zip a b => noBo a && noBo b
  | .star a => noBo a
  | _ => true
def lockOf : CE → Option (List Nat)
  | .loc i => some [i]
  | .enm (.loc i) => some [i]
  | e => if noBo e then some [] else none
def lockAll : List Nat → List SV → List SV
  | [], sl => sl
  | i :: is, sl => lockAll is (lockS sl i)
def ownAll (sl : List SV) (is : List Nat) : List (Nat × Bool) := is.map fun i => (i, isOwn sl i)
def isLock (sl : List SV) (i : Nat) : Bool :=
  match sl[i]? with
  | some (.lock _) => true
  | _ => false
def keptLocks (ls : List Nat) (x : Option Out) : Option Out :=
  match x with
  | some (.nx sl ss) => if ls.all (isLock sl) = true then some (.nx sl ss) else none
  | x => x
def unlockAll : List (Nat × Bool) → List SV → List SV
  | [], sl => sl
  | (i, b) :: r, sl => unlockAll r (unlockS b sl i)
def FUEL : Nat := 100000
def retR : R → Option R
  | .v d => some (.v d)
  | .fr xs => some (.fr xs)
  | .bo xs => some (.fr xs)
  | .src => some .src
  | _ => none
/-- x op= d of ints -/
def augI : BOp → D → D → Option D
  | .add, .int i, .int j => some (.int (i + j))
  | .sub, .int i, .int j => some (.int (i - j))
  | .mul, .int i, .int j => if i.natAbs < 18446744073709551616 ∨ j.natAbs < 18446744073709551616 then some (.int (i * j)) else none
  | .fdiv, .int i, .int j => if 0 < j ∧ j < 1073741824 then some (.int (i / j)) else none
  | .mod, .int i, .int j => if 0 < j then some (.int (i % j)) else none
  | _, _, _ => none
def augD (sl : List SV) (i : Nat) (o : BOp) (d : D) : Option (List SV) :=
  match sl[i]? with
  | some (.v x) => (augI o x d).map fun z => sl.set i (.v z)
  | some (.own xs) => match o, d with
    | .add, .list ys => if xs.length + ys.length ≤ SL then some (sl.set i (.own (xs ++ ys))) else none
    | _, _ => none
  | _ => none
def augsD (sl : List SV) (i : Nat) (k : D) (o : BOp) (d : D) : Option (List SV) :=
  match sl[i]?, k with
  | some (.own xs), .int k => (ixN xs.length k).bind fun j => xs[j]?.bind fun x => (augI o x d).map fun z => sl.set i (.own (xs.set j z))
  | _, _ => none
def toSet (x : O R) (sl : List SV) (i : Nat) : Option Out := x.bind fun p => (toS p.1).bind fun s => (setS sl i s).map fun sl => .nx sl p.2
def sputD (ss : SS) (k : SK) : D → Option SS
  | .int i => ss.put k i
  | _ => none
/-- the draws of a list in a drawn order -/
def mixD (f : Fn) : Nat → List D → SS → Option (List D × SS)
  | 0, _, ss => some ([], ss)
  | n + 1, xs, ss => (f [.src, .v (.int xs.length)] ss).bind fun p => match p.1 with
    | .v d => (popAt false xs d).bind fun q => (mixD f n q.2 p.2).map fun t => (q.1 :: t.1, t.2)
    | _ => none
mutual
def ex : CS → List SV → SS → Option Out
  | .set i e, sl, ss => toSet (ev e sl ss) sl i
  | .unp t e, sl, ss => (toD (ev e sl ss)).bind fun p => (bindT t p.1 sl).map fun sl => .nx sl p.2
  | .par js es, sl, ss => ((evs es sl ss).f toSs).bind fun p => (setAll js p.1 sl).map fun sl => .nx sl p.2
  | .sto i k e, sl, ss => (toE (ev e sl ss)).bind fun p => (toD (ev k sl p.2)).bind fun q => (stoD sl i q.1 p.1).map fun sl => .nx sl q.2
  | .sto2 i k j l e f, sl, ss => (toE (ev e sl ss)).bind fun p => (toE (ev f sl p.2)).bind fun q => (toD (ev k sl q.2)).bind fun t => (stoD sl i t.1 p.1).bind fun sl =>
      (toD (ev l sl t.2)).bind fun u => (stoD sl j u.1 q.1).map fun sl => .nx sl u.2
  | .aug i o e, sl, ss => (toD (ev e sl ss)).bind fun p => (augD sl i o p.1).map fun sl => .nx sl p.2
  | .augs i k o e, sl, ss => (toD (ev k sl ss)).bind fun p => (toD (ev e sl p.2)).bind fun q => (augsD sl i p.1 o q.1).map fun sl => .nx sl q.2
  | .app i e, sl, ss => (toE (ev e sl ss)).bind fun p => (ownL sl[i]?).bind fun xs => if xs.length < SL then some (.nx (sl.set i (.own (xs ++ [p.1]))) p.2) else none
  | .ext i e, sl, ss => (toD (ev e sl ss)).bind fun p => (ownL sl[i]?).bind fun xs => match p.1 with
    | .list ys => if xs.length + ys.length ≤ SL then some (.nx (sl.set i (.own (xs ++ ys))) p.2) else none
    | _ => none
  | .popS j i k, sl, ss => (toD (ev k sl ss)).bind fun p => (ownL sl[i]?).bind fun xs => (popAt (isNop k) xs p.1).bind fun q => (setS (sl.set i (.own q.2)) j (.v q.1)).map fun sl => .nx sl p.2
  | .exp e, sl, ss => (ev e sl ss).bind fun p => some (.nx sl p.2)
  | .ite c a b, sl, ss => (toB (ev c sl ss)).bind fun p => if p.1 then exs a sl p.2 else exs b sl p.2
  | .forr t it body, sl, ss => (lockOf it).bind fun is => (toI (ev it sl ss)).bind fun p =>
      match forD (fun d sl' ss => (bindT t d sl').bind fun sl' => keptLocks (is.filter (isLock (lockAll is sl))) (exs body sl' ss)) p.1 (lockAll is sl) p.2 with
      | some (.nx sl' ss') => some (.nx (unlockAll (ownAll sl is) sl') ss')
      | r => r
  | .whl c body, sl, ss => whD (fun sl ss => toB (ev c sl ss)) (fun sl ss => exs body sl ss) FUEL sl ss
  | .ret e, sl, ss => ((ev e sl ss).f retR).bind fun p => some (.rt p.1 p.2)
  | .retn, _, ss => some (.rt (.v .none) ss)
  | .frz i, sl, ss => some (.nx (frzS sl i) ss)
  | .kill js, sl, ss => some (.nx (killS js sl) ss)
  | .never, _, _ => none
  | .dput i k e, sl, ss => (toE (ev e sl ss)).bind fun p => (toD (ev k sl p.2)).bind fun q => (dputD sl i q.1 p.1).map fun sl => .nx sl q.2
  | .sput k i e, sl, ss => (toD (ev e sl ss)).bind fun p => match isSrc sl i with
    | true => (sputD p.2 k p.1).map fun s => .nx sl s
    | false => none
  | .spop i, sl, ss => match isSrc sl i, ss.cells with
    | true, c :: cs => some (.nx sl { ss with cells := cs, left := c })
    | _, _ => none
  | .appPop i j e, sl, ss => (toD (ev e sl ss)).bind fun p => (ownL sl[i]?).bind fun xs => (ownL sl[j]?).bind fun ys => (popAt false ys p.1).bind fun q =>
      if xs.length < SL ∧ i ≠ j then some (.nx ((sl.set j (.own q.2)).set i (.own (xs ++ [q.1]))) p.2) else none
  | .rmix r s lap x f, sl, ss => (ownL sl[r]?).bind fun xs => match isSrc sl s with
    | true => if xs.length ≤ SL ∧ lap ≠ r ∧ lap ≠ s then (mixD f xs.length xs ss).map fun p => .rt (.fr p.1) p.2 else none
    | false => none
def exs : List CS → List SV → SS → Option Out
  | [], sl, ss => some (.nx sl ss)
  | c :: cs, sl, ss => match ex c sl ss with
    | some (.nx sl ss) => exs cs sl ss
    | r => r
end
/-- a def: np parameters, N names -/
def runF (np N : Nat) (body : List CS) : Fn := fun args ss =>
  if args.length = np then match exs body (args.map AV.sv ++ List.replicate (N - np) .un) ss with
    | some (.rt r ss) => some (r, ss)
    | some (.nx _ ss) => some (.v .none, ss)
    | none => none
  else none
end Pm
/-! sorting data by insertion is what the layer's sort gives -/
namespace Pm
open PySem PySem.W PyProof.Rows
mutual
theorem ltD_eq : ∀ x y : D, alike x y = true → ltD x y = dataLt x y
  | .none, .none, _ => by rw [dataLt]; rfl
  | .bool a, .bool b, _ => by rw [dataLt_bool]; cases a <;> cases b <;> rfl
  | .int i, .int j, _ => by rw [dataLt_int]; rfl
  | .str x, .str y, _ => by rw [dataLt_str]; rfl
  | .list xs, .list ys, h => by rw [dataLt_list]; exact ltsD_eq xs ys (by simpa [alike] using h)
  | .tuple xs, .tuple ys, h => by rw [dataLt_tuple]; exact ltsD_eq xs ys (by simpa [alike] using h)
  | .none, .bool _, h | .none, .int _, h | .none, .str _, h | .none, .list _, h | .none, .tuple _, h | .none, .dict _, h => by simp [alike] at h
  | .bool _, .none, h | .bool _, .int _, h | .bool _, .str _, h | .bool _, .list _, h | .bool _, .tuple _, h | .bool _, .dict _, h => by simp [alike] at h
  | .int _, .none, h | .int _, .bool _, h | .int _, .str _, h | .int _, .list _, h | .int _, .tuple _, h | .int _, .dict _, h => by simp [alike] at h
  | .str _, .none, h | .str _, .bool _, h | .str _, .int _, h | .str _, .list _, h | .str _, .tuple _, h | .str _, .dict _, h => by simp [alike] at h
  | .list _, .none, h | .list _, .bool _, h | .list _, .int _, h | .list _, .str _, h | .list _, .tuple _, h | .list _, .dict _, h => by simp [alike] at h
  | .tuple _, .none, h | .tuple _, .bool _, h | .tuple _, .int _, h | .tuple _, .str _, h | .tuple _, .list _, h | .tuple _, .dict _, h => by simp [alike] at h
  | .dict _, _, h => by simp [alike] at h
theorem ltsD_eq : ∀ xs ys : List D, alikeAll xs ys = true → ltsD xs ys = PyProof.Rows.lexLt itemOrd (keyToksAll xs) (keyToksAll ys)
  | [], [], _ => by rw [PyProof.Rows.lex_irrefl]; rfl
  | [], y :: ys, _ => by
    rw [toks_all_cons]
    show true = PyProof.Rows.lexLt itemOrd [.inl 0] _
    rw [PyProof.Rows.lex_diff (by simp)]
    rfl
  | x :: xs, [], _ => by
    rw [toks_all_cons]
    show false = PyProof.Rows.lexLt itemOrd _ [.inl 0]
    rw [PyProof.Rows.lex_diff (by simp)]
    rfl
  | x :: xs, y :: ys, h => by
    obtain ⟨h1, h2⟩ := alike_all_cons h
    show (if PyData.eqv x y then ltsD xs ys else ltD x y) = _
    cases e : PyData.eqv x y with
    | true => rw [if_pos rfl, dataLt_all_yes h1 e]; exact ltsD_eq xs ys h2
    | false => rw [if_neg Bool.false_ne_true, dataLt_all_no h1 e]; exact ltD_eq x y h1
end
mutual
theorem eqv_eq : ∀ x y : D, alike x y = true → PyData.eqv x y = true → x = y
  | .none, .none, _, _ => rfl
  | .bool a, .bool b, _, e => by cases a <;> cases b <;> simp [PyData.eqv] at e ⊢
  | .int i, .int j, _, e => by simp [PyData.eqv] at e; rw [e]
  | .str x, .str y, _, e => by simp [PyData.eqv] at e; rw [e]
  | .list xs, .list ys, h, e => by rw [eqvAll_eq xs ys (by simpa [alike] using h) (by simpa [PyData.eqv] using e)]
  | .tuple xs, .tuple ys, h, e => by rw [eqvAll_eq xs ys (by simpa [alike] using h) (by simpa [PyData.eqv] using e)]
  | .none, .bool _, h, _ | .none, .int _, h, _ | .none, .str _, h, _ | .none, .list _, h, _ | .none, .tuple _, h, _ | .none, .dict _, h, _ => by simp [alike] at h
  | .bool _, .none, h, _ | .bool _, .int _, h, _ | .bool _, .str _, h, _ | .bool _, .list _, h, _ | .bool _, .tuple _, h, _ | .bool _, .dict _, h, _ => by simp [alike] at h
  | .int _, .none, h, _ | .int _, .bool _, h, _ | .int _, .str _, h, _ | .int _, .list _, h, _ | .int _, .tuple _, h, _ | .int _, .dict _, h, _ => by simp [alike] at h
  | .str _, .none, h, _ | .str _, .bool _, h, _ | .str _, .int _, h, _ | .str _, .list _, h, _ | .str _, .tuple _, h, _ | .str _, .dict _, h, _ => by simp [alike] at h
  | .list _, .none, h, _ | .list _, .bool _, h, _ | .list _, .int _, h, _ | .list _, .str _, h, _ | .list _, .tuple _, h, _ | .list _, .dict _, h, _ => by simp [alike] at h
  | .tuple _, .none, h, _ | .tuple _, .bool _, h, _ | .tuple _, .int _, h, _ | .tuple _, .str _, h, _ | .tuple _, .list _, h, _ | .tuple _, .dict _, h, _ => by simp [alike] at h
  | .dict _, _, h, _ => by simp [alike] at h
theorem eqvAll_eq : ∀ xs ys : List D, alikeAll xs ys = true → PyData.eqvAll xs ys = true → xs = ys
  | [], [], _, _ => rfl
  | [], _ :: _, _, e => by simp [PyData.eqvAll] at e
  | _ :: _, [], _, e => by simp [PyData.eqvAll] at e
  | x :: xs, y :: ys, h, e => by
    obtain ⟨h1, h2⟩ := alike_all_cons h
    rw [eqv_all_cons, Bool.and_eq_true] at e
    rw [eqv_eq x y h1 e.1, eqvAll_eq xs ys h2 e.2]
end
theorem toks_inj {x y : D} (h : alike x y = true) (e : keyToks x = keyToks y) : x = y := by
  obtain ⟨_, h2⟩ := toks_eqv x y h
  refine eqv_eq x y h ?_
  cases q : PyData.eqv x y with
  | true => rfl
  | false =>
    exfalso
    have a := h2 q [] [.inl 0]
    have b := h2 q [.inl 0] []
    rw [← a, ← e, lex_pre, lex_pre] at b
    simp [PyProof.Rows.lexLt] at b
theorem lt_anti {x y : D} (h : alike x y = true) (a : dataLt x y = false) (b : dataLt y x = false) : x = y := toks_inj h (PyProof.Rows.lex_total _ _ a b)
theorem le_data (x y : D) : dataLe false id x y = !dataLt y x := by rw [dataLe_eq]; rfl
theorem dle_trans (x y z : D) (a : dataLe false id x y = true) (b : dataLe false id y z = true) : dataLe false id x z = true := by
  rw [le_data, Bool.not_eq_true'] at *
  cases q : dataLt z x with
  | false => rfl
  | true =>
    exfalso
    have := (PyProof.Rows.listOrd itemOrd).negTrans _ (keyToks y) _ q
    simp only [dataLt] at a b
    first
      | (rcases this with c | c <;> simp_all)
      | simp_all
theorem dle_total (x y : D) : (dataLe false id x y || dataLe false id y x) = true := by
  rw [le_data, le_data]
  cases a : dataLt y x with
  | false => rfl
  | true =>
    cases b : dataLt x y with
    | false => rfl
    | true =>
      have := (PyProof.Rows.listOrd itemOrd).trans _ _ _ a b
      rw [(PyProof.Rows.listOrd itemOrd).irrefl] at this
      cases this
theorem insD_perm (x : D) : ∀ l, (insD x l).Perm (x :: l)
  | [] => .refl _
  | y :: r => by
    unfold insD
    split
    · exact ((insD_perm x r).cons y).trans (.swap x y r)
    · exact .refl _
theorem sortD_perm : ∀ l, (sortD l).Perm l
  | [] => .refl _
  | x :: r => (insD_perm x _).trans ((sortD_perm r).cons x)
theorem insD_pw (x : D) : ∀ l : List D, (∀ y ∈ l, alike y x = true ∧ alike x y = true) → l.Pairwise (fun a b => dataLe false id a b = true) → (insD x l).Pairwise (fun a b => dataLe false id a b = true)
  | [], _, _ => by simp [insD]
  | y :: r, hx, h => by
    rw [List.pairwise_cons] at h
    have e := ltD_eq y x (hx y List.mem_cons_self).1
    unfold insD
    split
    · rename_i hlt
      refine List.pairwise_cons.mpr ⟨fun z hz => ?_, insD_pw x r (fun z hz => hx z (List.mem_cons_of_mem _ hz)) h.2⟩
      rcases List.mem_cons.mp ((insD_perm x r).mem_iff.mp hz) with rfl | hz
      · rw [e] at hlt
        rw [le_data, Bool.not_eq_true']
        cases q : dataLt z y with
        | false => rfl
        | true =>
          have := (PyProof.Rows.listOrd itemOrd).trans _ _ _ hlt q
          rw [(PyProof.Rows.listOrd itemOrd).irrefl] at this
          cases this
      · exact h.1 z hz
    · rename_i hlt
      rw [Bool.not_eq_true] at hlt
      have hxy : dataLe false id x y = true := by rw [le_data, ← e, hlt]; rfl
      refine List.pairwise_cons.mpr ⟨fun z hz => ?_, List.pairwise_cons.mpr h⟩
      rcases List.mem_cons.mp hz with rfl | hz
      · exact hxy
      · exact dle_trans _ _ _ hxy (h.1 z hz)
theorem sortD_pw : ∀ l : List D, AllAlike l → (sortD l).Pairwise (fun a b => dataLe false id a b = true)
  | [], _ => .nil
  | x :: r, h => insD_pw x _ (fun y hy => ⟨h _ (List.mem_cons_of_mem _ ((sortD_perm r).mem_iff.mp hy)) _ List.mem_cons_self, h _ List.mem_cons_self _ (List.mem_cons_of_mem _ ((sortD_perm r).mem_iff.mp hy))⟩)
      (sortD_pw r fun a ha b hb => h a (List.mem_cons_of_mem _ ha) b (List.mem_cons_of_mem _ hb))
theorem perm_uniq {α : Type} {le : α → α → Bool} : ∀ {l m : List α}, l.Perm m → (∀ a ∈ l, ∀ b ∈ l, le a b = true → le b a = true → a = b) → l.Pairwise (fun a b => le a b = true) → m.Pairwise (fun a b => le a b = true) → l = m
  | [], m, p, _, _, _ => (List.Perm.nil_eq p)
  | x :: r, [], p, _, _, _ => by have := p.length_eq; simp at this
  | x :: r, y :: t, p, an, h1, h2 => by
    rw [List.pairwise_cons] at h1 h2
    have e : x = y := by
      have a : x ∈ y :: t := p.mem_iff.mp List.mem_cons_self
      have b : y ∈ x :: r := p.mem_iff.mpr List.mem_cons_self
      rcases List.mem_cons.mp a with a' | a'
      · exact a'
      · rcases List.mem_cons.mp b with b' | b'
        · exact b'.symm
        · exact an x List.mem_cons_self y b (h1.1 y b') (h2.1 x a')
    subst e
    rw [perm_uniq (List.Perm.cons_inv p) (fun a ha b hb => an a (List.mem_cons_of_mem _ ha) b (List.mem_cons_of_mem _ hb)) h1.2 h2.2]
theorem sortD_eq {l : List D} (h : AllAlike l) : l.mergeSort (dataLe false id) = sortD l := by
  refine (perm_uniq ((sortD_perm l).trans (List.mergeSort_perm l _).symm) (fun a ha b hb q1 q2 => ?_) (sortD_pw l h) (List.pairwise_mergeSort dle_trans dle_total l)).symm
  rw [le_data, Bool.not_eq_true'] at q1 q2
  have ma := (sortD_perm l).mem_iff.mp ha
  have mb := (sortD_perm l).mem_iff.mp hb
  exact lt_anti (h a ma b mb) q2 q1
theorem intsL_of : ∀ {xs : List D} {is : List Int}, intsL xs = some is → xs = is.map .int
  | [], is, e => by simp [intsL] at e; subst e; rfl
  | d :: r, is, e => by
    cases d with
    | int i =>
      simp only [intsL, Option.map_eq_some_iff] at e
      obtain ⟨js, e1, rfl⟩ := e
      rw [intsL_of e1]; rfl
    | _ => simp [intsL] at e
theorem intsL_map : ∀ is : List Int, intsL (is.map .int) = some is
  | [] => rfl
  | i :: is => by simp [intsL, intsL_map is]
theorem insD_int (x : Int) : ∀ l : List Int, insD (.int x) (l.map .int) = (insI x l).map .int
  | [] => rfl
  | y :: r => by
    show (if decide (y < x) = true then _ else _) = _
    unfold insI
    by_cases h : x ≤ y
    · rw [if_pos h, if_neg (by simp; omega)]; rfl
    · rw [if_neg h, if_pos (by simp; omega), insD_int x r]; rfl
theorem sortD_int : ∀ l : List Int, sortD (l.map .int) = (sortI l).map .int
  | [] => rfl
  | x :: r => by show insD _ (sortD (r.map .int)) = _; rw [sortD_int r, insD_int]; rfl
theorem intTup_of {d : D} (h : intTup d = true) : ∃ i is, d = .tuple ((i :: is).map .int) := by
  unfold intTup at h
  split at h
  · rename_i x xs
    obtain ⟨is, e⟩ := Option.isSome_iff_exists.mp h
    have := intsL_of e
    cases is with
    | nil => simp at this
    | cons i is => exact ⟨i, is, by rw [this]⟩
  · cases h
theorem depth_ints : ∀ is : List Int, PyData.depthAll (is.map .int) = 0
  | [] => by simp [PyData.depthAll]
  | i :: is => by simp [PyData.depthAll, PyData.depth, depth_ints is]
theorem sortable_of {xs : List D} (h : sortable xs = true) : AllAlike xs ∧ Sortable xs ∧ ∀ d ∈ xs, d.depth ≤ 64 := by
  unfold sortable at h
  rw [Bool.or_eq_true, Bool.or_eq_true] at h
  rcases h with (h | h) | h
  · obtain ⟨is, e⟩ := Option.isSome_iff_exists.mp h
    have := intsL_of e
    subst this
    refine ⟨fun d hd d' hd' => ?_, .inr fun d hd => ?_, fun d hd => ?_⟩
    · obtain ⟨i, _, rfl⟩ := List.mem_map.mp hd
      obtain ⟨j, _, rfl⟩ := List.mem_map.mp hd'
      simp [alike]
    · obtain ⟨i, _, rfl⟩ := List.mem_map.mp hd
      exact ⟨by simp, fun _ => by simp⟩
    · obtain ⟨i, _, rfl⟩ := List.mem_map.mp hd
      simp [PyData.depth]
  · have h := List.all_eq_true.mp h
    refine ⟨fun d hd d' hd' => ?_, .inl fun d hd => ?_, fun d hd => ?_⟩
    · obtain ⟨i, is, rfl⟩ := intTup_of (h d hd)
      obtain ⟨j, js, rfl⟩ := intTup_of (h d' hd')
      rw [alike]
      exact alike_ints _ _
    · obtain ⟨i, is, rfl⟩ := intTup_of (h d hd)
      exact ⟨_, _, rfl⟩
    · obtain ⟨i, is, rfl⟩ := intTup_of (h d hd)
      rw [PyData.depth, depth_ints]
      omega
  · simp only [Bool.and_eq_true, Bool.or_eq_true] at h
    obtain ⟨⟨h1, h2⟩, h3⟩ := h
    refine ⟨fun d hd d' hd' => List.all_eq_true.mp (List.all_eq_true.mp h1 d hd) d' hd', ?_, fun d hd => of_decide_eq_true (List.all_eq_true.mp h3 d hd)⟩
    rcases h2 with h2 | h2
    · refine .inl fun d hd => ?_
      have := List.all_eq_true.mp h2 d hd
      unfold neTup at this
      split at this
      · exact ⟨_, _, rfl⟩
      · cases this
    · refine .inr fun d hd => ?_
      have := List.all_eq_true.mp h2 d hd
      exact ⟨fun z => by subst z; simp [noTup] at this, fun xs z => by subst z; simp [noTup] at this⟩
end Pm
namespace Pm
open PySem PySem.Spec PyProof.Rows L2
mutual
/-- x is the value d; lists within are of those at F, which nobody changes -/
inductive FD (K : PySem.W.Frag) (F : Addr → Prop) (H : Hp) : V → D → Prop
  | non : FD K F H .non .none
  | bl (b : Bool) : FD K F H (.bl b) (.bool b)
  | int (i : Int) : FD K F H (.int i) (.int i)
  | str (x : Str) : FD K F H (.str x) (.str x)
  | lst {a : Addr} {vs : List V} {ds : List D} : F a → H a = some (.lst vs) → FDs K F H vs ds → FD K F H (.ref a) (.list ds)
  | tup {a : Addr} {vs : List V} {ds : List D} : SqT K H a vs → FDs K F H vs ds → FD K F H (.ref a) (.tuple ds)
inductive FDs (K : PySem.W.Frag) (F : Addr → Prop) (H : Hp) : List V → List D → Prop
  | nil : FDs K F H [] []
  | cons {v : V} {vs : List V} {d : D} {ds : List D} : FD K F H v d → FDs K F H vs ds → FDs K F H (v :: vs) (d :: ds)
end
section
variable {K : PySem.W.Frag} {F F' : Addr → Prop} {H H' : Hp}
theorem FDs.length : ∀ {vs : List V} {ds : List D}, FDs K F H vs ds → vs.length = ds.length
  | _, _, .nil => rfl
  | _, _, .cons _ r => congrArg (· + 1) r.length
theorem FDs.get : ∀ {vs : List V} {ds : List D} {i : Nat} {d : D}, FDs K F H vs ds → ds[i]? = some d → ∃ v, vs[i]? = some v ∧ FD K F H v d
  | _, _, _, _, .nil, e => by simp at e
  | _, _, 0, _, .cons r _, e => by simp at e; subst e; exact ⟨_, rfl, r⟩
  | _, _, i + 1, d, .cons _ t, e => by
    obtain ⟨u, h1, h2⟩ := FDs.get (i := i) (d := d) t (by simpa using e)
    exact ⟨u, by simpa using h1, h2⟩
theorem FDs.get' : ∀ {vs : List V} {ds : List D} {i : Nat} {v : V}, FDs K F H vs ds → vs[i]? = some v → ∃ d, ds[i]? = some d ∧ FD K F H v d
  | _, _, _, _, .nil, e => by simp at e
  | _, _, 0, _, .cons r _, e => by simp at e; subst e; exact ⟨_, rfl, r⟩
  | _, _, i + 1, d, .cons _ t, e => by
    obtain ⟨u, h1, h2⟩ := FDs.get' (i := i) (v := d) t (by simpa using e)
    exact ⟨u, by simpa using h1, h2⟩
theorem FDs.append : ∀ {vs ws : List V} {ds es : List D}, FDs K F H vs ds → FDs K F H ws es → FDs K F H (vs ++ ws) (ds ++ es)
  | _, _, _, _, .nil, s => s
  | _, _, _, _, .cons r t, s => .cons r (FDs.append t s)
theorem FDs.one {v : V} {d : D} (h : FD K F H v d) : FDs K F H [v] [d] := .cons h .nil
theorem FDs.take : ∀ {vs : List V} {ds : List D} (n : Nat), FDs K F H vs ds → FDs K F H (vs.take n) (ds.take n)
  | _, _, 0, _ => .nil
  | _, _, _ + 1, .nil => .nil
  | _, _, n + 1, .cons r t => .cons r (FDs.take n t)
theorem FDs.drop : ∀ {vs : List V} {ds : List D} (n : Nat), FDs K F H vs ds → FDs K F H (vs.drop n) (ds.drop n)
  | _, _, 0, r => r
  | _, _, _ + 1, .nil => .nil
  | _, _, n + 1, .cons _ t => FDs.drop n t
theorem FDs.rev : ∀ {vs : List V} {ds : List D}, FDs K F H vs ds → FDs K F H vs.reverse ds.reverse
  | _, _, .nil => .nil
  | _, _, .cons r t => by rw [List.reverse_cons, List.reverse_cons]; exact (FDs.rev t).append (.one r)
theorem FDs.set {v : V} {d : D} (h : FD K F H v d) : ∀ {vs : List V} {ds : List D} (i : Nat), FDs K F H vs ds → FDs K F H (vs.set i v) (ds.set i d)
  | _, _, _, .nil => .nil
  | _, _, 0, .cons _ t => .cons h t
  | _, _, i + 1, .cons q t => .cons q (FDs.set h i t)
theorem FDs.erase : ∀ {vs : List V} {ds : List D} (i : Nat), FDs K F H vs ds → FDs K F H (vs.eraseIdx i) (ds.eraseIdx i)
  | _, _, _, .nil => .nil
  | _, _, 0, .cons _ t => t
  | _, _, i + 1, .cons q t => .cons q (FDs.erase i t)
theorem FDs.rep : ∀ {vs : List V} {ds : List D} (n : Nat), FDs K F H vs ds → FDs K F H (List.replicate n vs).flatten (List.replicate n ds).flatten
  | _, _, 0, _ => .nil
  | vs, ds, n + 1, h => by
    rw [List.replicate_succ, List.replicate_succ, List.flatten_cons, List.flatten_cons]
    exact h.append (FDs.rep n h)
/-- what a change of the heap must leave -/
structure Ke (K : PySem.W.Frag) (F F' : Addr → Prop) (H H' : Hp) : Prop where
  tup : ∀ a vs, SqT K H a vs → SqT K H' a vs
  lst : ∀ a vs, F a → H a = some (.lst vs) → F' a ∧ H' a = some (.lst vs)
mutual
theorem FD.keep (k : Ke K F F' H H') : ∀ {v : V} {d : D}, FD K F H v d → FD K F' H' v d
  | _, _, .non => .non
  | _, _, .bl b => .bl b
  | _, _, .int i => .int i
  | _, _, .str x => .str x
  | _, _, .lst f e r => .lst (k.lst _ _ f e).1 (k.lst _ _ f e).2 (FDs.keep k r)
  | _, _, .tup s r => .tup (k.tup _ _ s) (FDs.keep k r)
theorem FDs.keep (k : Ke K F F' H H') : ∀ {vs : List V} {ds : List D}, FDs K F H vs ds → FDs K F' H' vs ds
  | _, _, .nil => .nil
  | _, _, .cons r t => .cons (FD.keep k r) (FDs.keep k t)
end
mutual
theorem FD.dp : ∀ {v : V} {d : D}, FD K F H v d → Dp K H v d
  | _, _, .non => .non
  | _, _, .bl b => .bl b
  | _, _, .int i => .int i
  | _, _, .str x => .str x
  | _, _, .lst f e r => .lst (.of e) (FDs.dp r)
  | _, _, .tup s r => .tup s (FDs.dp r)
theorem FDs.dp : ∀ {vs : List V} {ds : List D}, FDs K F H vs ds → DpAll K H vs ds
  | _, _, .nil => .nil
  | _, _, .cons r t => .cons (FD.dp r) (FDs.dp t)
end
mutual
/-- what holds no list leans on no list -/
theorem FD.free (k : ∀ a vs, SqT K H a vs → SqT K H' a vs) : ∀ {v : V} {d : D}, FD K F H v d → lf d = true → FD K F' H' v d
  | _, _, .non, _ => .non
  | _, _, .bl b, _ => .bl b
  | _, _, .int i, _ => .int i
  | _, _, .str x, _ => .str x
  | _, _, .lst f e r, h => by simp [lf] at h
  | _, _, .tup s r, h => .tup (k _ _ s) (FDs.free k r (by simpa [lf] using h))
theorem FDs.free (k : ∀ a vs, SqT K H a vs → SqT K H' a vs) : ∀ {vs : List V} {ds : List D}, FDs K F H vs ds → lf.lfs ds = true → FDs K F' H' vs ds
  | _, _, .nil, _ => .nil
  | _, _, .cons r t, h => by
    simp only [lf.lfs, Bool.and_eq_true] at h
    exact .cons (FD.free k r h.1) (FDs.free k t h.2)
end
theorem FDs.ints : ∀ {vs : List V} {ds : List D} {is : List Int}, FDs K F H vs ds → intsL ds = some is → vs = is.map V.int
  | _, _, _, .nil, e => by simp [intsL] at e; subst e; rfl
  | _, _, _, .cons (d := d) r t, e => by
    cases d with
    | int i =>
      simp only [intsL, Option.map_eq_some_iff] at e
      obtain ⟨js, e1, rfl⟩ := e
      cases r
      rw [FDs.ints t e1]; rfl
    | _ => simp [intsL] at e
theorem FDs.bools : ∀ {vs : List V} {ds : List D} {is : List Bool}, FDs K F H vs ds → boolsL ds = some is → vs = is.map V.bl
  | _, _, _, .nil, e => by simp [boolsL] at e; subst e; rfl
  | _, _, _, .cons (d := d) r t, e => by
    cases d with
    | bool i =>
      simp only [boolsL, Option.map_eq_some_iff] at e
      obtain ⟨js, e1, rfl⟩ := e
      cases r
      rw [FDs.bools t e1]; rfl
    | _ => simp [boolsL] at e
theorem FDs.of_ints (is : List Int) : FDs K F H (is.map V.int) (is.map PyData.int) := by
  induction is with
  | nil => exact .nil
  | cons i is ih => exact .cons (.int i) ih
end
/-- the ghost: where the source's dict and its list lie, the heap and the kept lists at the def's entry -/
structure G where
  A : Addr
  C : Addr
  He : Hp
  Fe : Addr → Prop
def SrcOk (A C : Addr) (ss : SS) (H : Hp) : Prop :=
  H A = some (.dK [(.inr "cells", .ref C), (.inr "left", .int ss.left), (.inr "mixed", .int ss.mixed), (.inr "turn", .int ss.turn)]) ∧
  H C = some (.lst (ss.cells.reverse.map V.int)) ∧ (∀ c ∈ ss.cells, 0 ≤ c) ∧ 0 ≤ ss.left ∧ ss.cells.length ≤ 1000 ∧ 0 ≤ ss.turn
def KVs {κ : Type} (K : PySem.W.Frag) (F : Addr → Prop) (H : Hp) : List (κ × V) → List (κ × D) → Prop := Paired fun p q => p.1 = q.1 ∧ FD K F H p.2 q.2
/-- a slot -/
def RS (K : PySem.W.Frag) (g : G) (F : Addr → Prop) (H : Hp) : SV → Option V → Prop
  | .un, _ => True
  | .v d, x => ∃ v, x = some v ∧ FD K F H v d
  | .own xs, x => ∃ a vs, x = some (.ref a) ∧ H a = some (.lst vs) ∧ FDs K F H vs xs ∧ ¬ F a ∧ a ≠ g.C ∧ g.He a = none
  | .lock xs, x => ∃ a vs, x = some (.ref a) ∧ H a = some (.lst vs) ∧ FDs K F H vs xs ∧ ¬ F a ∧ a ≠ g.C ∧ g.He a = none
  | .dk kvs, x => ∃ a vvs, x = some (.ref a) ∧ H a = some (.dK vvs) ∧ KVs K F H vvs kvs ∧ a ≠ g.A ∧ g.He a = none
  | .dt kvs, x => ∃ a vvs, x = some (.ref a) ∧ H a = some (.dT vvs) ∧ KVs K F H vvs kvs ∧ a ≠ g.A ∧ g.He a = none
  | .src, x => x = some (.ref g.A)
/-- slots that own -/
def SV.ow : SV → Bool
  | .own _ | .lock _ | .dk _ | .dt _ => true
  | _ => false
structure Rp (K : PySem.W.Frag) (g : G) (F : Addr → Prop) (ss : SS) (sl : List SV) (σ : L2.St) (H : Hp) : Prop where
  len : sl.length = σ.length
  slot : ∀ (i : Nat) (s : SV), sl[i]? = some s → ∃ x, σ[i]? = some x ∧ RS K g F H s x
  apart : ∀ (i j : Nat) (s t : SV) (a : Addr), i ≠ j → sl[i]? = some s → sl[j]? = some t → s.ow = true → t.ow = true → σ[i]? = some (some (.ref a)) → σ[j]? ≠ some (some (.ref a))
  ent : ∀ a o, g.He a = some o → a ≠ g.A → a ≠ g.C → H a = some o
  frz : ∀ a, F a → g.Fe a ∨ g.He a = none
  dom : ∀ a, F a → ∃ vs, H a = some (.lst vs)
  fe : ∀ a, g.Fe a → F a
  fC : ¬ F g.C
  eS : ∃ s, SrcOk g.A g.C s g.He
  src : SrcOk g.A g.C ss H
/-- the heap grows -/
structure Gr (g : G) (F F' : Addr → Prop) (H H' : Hp) : Prop where
  keep : ∀ a o, H a = some o → a ≠ g.A → a ≠ g.C → H' a = some o
  sub : ∀ a, F a → F' a
  new : ∀ a, F' a → F a ∨ H a = none
  dom : ∀ a, F' a → ∃ vs, H' a = some (.lst vs)
  fC : ¬ F' g.C
  src : ∃ ss ss', SrcOk g.A g.C ss H ∧ SrcOk g.A g.C ss' H'
section
variable {K : PySem.W.Frag} {g : G} {F F1 F2 F' : Addr → Prop} {ss ss' : SS} {sl : List SV} {σ : L2.St} {H H1 H2 H' : Hp}
theorem SrcOk.neAC (s : SrcOk g.A g.C ss H) : g.A ≠ g.C := by
  intro e
  have h1 := s.1
  have h2 := s.2.1
  rw [e, h2] at h1
  cases h1
theorem SqT.step (hs : SrcOk g.A g.C ss H) (k : ∀ a o, H a = some o → a ≠ g.A → a ≠ g.C → H' a = some o) {a : Addr} {vs : List V} (h : SqT K H a vs) : SqT K H' a vs := by
  have ne : ∀ o, H a = some o → (∀ kvs, o ≠ .dK kvs) → (∀ xs, o ≠ .lst xs) → a ≠ g.A ∧ a ≠ g.C := fun o e h1 h2 =>
    ⟨fun z => by subst z; rw [hs.1] at e; cases e; exact h1 _ rfl, fun z => by subst z; rw [hs.2.1] at e; cases e; exact h2 _ rfl⟩
  rcases h with (h | ⟨o, h⟩) | h
  · obtain ⟨n1, n2⟩ := ne _ h (fun _ z => by cases z) (fun _ z => by cases z)
    exact .inl (.inl (k _ _ h n1 n2))
  · obtain ⟨n1, n2⟩ := ne _ h (fun _ z => by cases z) (fun _ z => by cases z)
    exact .inl (.inr ⟨o, k _ _ h n1 n2⟩)
  · exact .inr h
theorem Gr.ke (r : Gr g F F' H H') (hf : ¬ F g.C) : Ke K F F' H H' := by
  obtain ⟨s0, s1, e0, e1⟩ := r.src
  refine ⟨fun a vs h => SqT.step e0 r.keep h, fun a vs f e => ⟨r.sub a f, r.keep a _ e (fun z => ?_) (fun z => ?_)⟩⟩
  · subst z; rw [e0.1] at e; cases e
  · subst z; exact hf f
theorem Gr.refl (s : SrcOk g.A g.C ss H) (d : ∀ a, F a → ∃ vs, H a = some (.lst vs)) (c : ¬ F g.C) : Gr g F F H H :=
  ⟨fun _ _ e _ _ => e, fun _ h => h, fun _ h => .inl h, d, c, ss, ss, s, s⟩
theorem Gr.back (r : Gr g F F1 H H1) {a : Addr} (e : H1 a = none) : H a = none := by
  cases q : H a with
  | none => rfl
  | some o =>
    obtain ⟨s0, s1, e0, e1⟩ := r.src
    have n1 : a ≠ g.A := fun z => by subst z; rw [e1.1] at e; cases e
    have n2 : a ≠ g.C := fun z => by subst z; rw [e1.2.1] at e; cases e
    rw [r.keep a o q n1 n2] at e; cases e
theorem Gr.trans (a : Gr g F F1 H H1) (b : Gr g F1 F2 H1 H2) : Gr g F F2 H H2 := by
  refine ⟨fun c o e n1 n2 => b.keep c o (a.keep c o e n1 n2) n1 n2, fun c h => b.sub c (a.sub c h), fun c h => ?_, b.dom, b.fC, ?_⟩
  · rcases b.new c h with h | h
    · exact a.new c h
    · exact .inr (a.back h)
  · obtain ⟨s0, _, e0, _⟩ := a.src
    obtain ⟨_, s1, _, e1⟩ := b.src
    exact ⟨s0, s1, e0, e1⟩
theorem SrcOk.upd (s : SrcOk g.A g.C ss H) {p : Addr} {o : HO} (hA : g.A ≠ p) (hC : g.C ≠ p) : SrcOk g.A g.C ss (upd H p o) := by
  refine ⟨?_, ?_, s.2.2⟩
  · rw [upd_ne hA]; exact s.1
  · rw [upd_ne hC]; exact s.2.1
theorem Rp.srcNe (r : Rp K g F ss sl σ H) {p : Addr} (hp : H p = none) : g.A ≠ p ∧ g.C ≠ p :=
  ⟨fun z => (by rw [← z, r.src.1] at hp; cases hp), fun z => (by rw [← z, r.src.2.1] at hp; cases hp)⟩
/-- a new object -/
theorem Rp.grUpd (r : Rp K g F ss sl σ H) {p : Addr} {o : HO} (hp : H p = none) : Gr g F F H (upd H p o) := by
  obtain ⟨nA, nC⟩ := r.srcNe hp
  refine ⟨fun a u e _ _ => ?_, fun _ h => h, fun _ h => .inl h, fun a f => ?_, r.fC, ss, ss, r.src, r.src.upd nA nC⟩
  · rw [upd_ne (ne_of_none e hp)]; exact e
  · obtain ⟨vs, e⟩ := r.dom a f
    exact ⟨vs, by rw [upd_ne (ne_of_none e hp)]; exact e⟩
/-- a new object that is kept -/
theorem Rp.grNew (r : Rp K g F ss sl σ H) {p : Addr} {vs : List V} (hp : H p = none) : Gr g F (fun a => F a ∨ a = p) H (upd H p (.lst vs)) := by
  obtain ⟨nA, nC⟩ := r.srcNe hp
  refine ⟨fun a u e _ _ => ?_, fun _ h => .inl h, fun a h => ?_, fun a f => ?_, fun f => ?_, ss, ss, r.src, r.src.upd nA nC⟩
  · rw [upd_ne (ne_of_none e hp)]; exact e
  · rcases h with h | h
    · exact .inl h
    · subst h; exact .inr hp
  · rcases f with f | f
    · obtain ⟨vs, e⟩ := r.dom a f
      exact ⟨vs, by rw [upd_ne (ne_of_none e hp)]; exact e⟩
    · subst f; exact ⟨vs, upd_same⟩
  · rcases f with f | f
    · exact r.fC f
    · exact nC f
theorem RS.keep {s : SV} {x : Option V} (h : RS K g F H s x) (r : Gr g F F' H H') (hf : ¬ F g.C) : RS K g F' H' s x := by
  have k : Ke K F F' H H' := r.ke hf
  obtain ⟨s0, s1, e0, e1⟩ := r.src
  have own : ∀ {a : Addr} {vs : List V}, H a = some (.lst vs) → ¬ F a → a ≠ g.C → H' a = some (.lst vs) ∧ ¬ F' a := fun {a vs} e nf nc => by
    refine ⟨r.keep a _ e (fun z => by subst z; rw [e0.1] at e; cases e) nc, fun f => ?_⟩
    rcases r.new a f with f | f
    · exact nf f
    · rw [e] at f; cases f
  cases s with
  | un => trivial
  | v d => obtain ⟨v, e, h⟩ := h; exact ⟨v, e, h.keep k⟩
  | own xs => obtain ⟨a, vs, e, h1, h2, h3, h4, h5⟩ := h; exact ⟨a, vs, e, (own h1 h3 h4).1, h2.keep k, (own h1 h3 h4).2, h4, h5⟩
  | lock xs => obtain ⟨a, vs, e, h1, h2, h3, h4, h5⟩ := h; exact ⟨a, vs, e, (own h1 h3 h4).1, h2.keep k, (own h1 h3 h4).2, h4, h5⟩
  | dk kvs =>
    obtain ⟨a, vvs, e, h1, h2, h3, h4⟩ := h
    exact ⟨a, vvs, e, r.keep a _ h1 h3 (fun z => by subst z; rw [e0.2.1] at h1; cases h1), Paired.mapP h2 fun p q z => ⟨z.1, z.2.keep k⟩, h3, h4⟩
  | dt kvs =>
    obtain ⟨a, vvs, e, h1, h2, h3, h4⟩ := h
    exact ⟨a, vvs, e, r.keep a _ h1 h3 (fun z => by subst z; rw [e0.2.1] at h1; cases h1), Paired.mapP h2 fun p q z => ⟨z.1, z.2.keep k⟩, h3, h4⟩
  | src => exact h
theorem Rp.step (p : Rp K g F ss sl σ H) (r : Gr g F F' H H') (hs : SrcOk g.A g.C ss' H') : Rp K g F' ss' sl σ H' := by
  refine ⟨p.len, fun i s e => ?_, p.apart, fun a o e n1 n2 => r.keep a o (p.ent a o e n1 n2) n1 n2, fun a f => ?_, r.dom, fun a f => r.sub a (p.fe a f), r.fC, p.eS, hs⟩
  · obtain ⟨x, e1, h⟩ := p.slot i s e
    exact ⟨x, e1, h.keep r p.fC⟩
  · rcases r.new a f with f | f
    · exact p.frz a f
    · right
      cases q : g.He a with
      | none => rfl
      | some o =>
        have n1 : a ≠ g.A := fun z => by subst z; rw [p.src.1] at f; cases f
        have n2 : a ≠ g.C := fun z => by subst z; rw [p.src.2.1] at f; cases f
        rw [p.ent a o q n1 n2] at f; cases f
theorem Rp.gr (p : Rp K g F ss sl σ H) : Gr g F F H H := .refl p.src p.dom p.fC
end
/-- what an expression gave: H_0 the heap ahead of it -/
def RR (K : PySem.W.Frag) (g : G) (F : Addr → Prop) (H0 H : Hp) : R → V → Prop
  | .v d, x => FD K F H x d
  | .fr xs, x => ∃ a vs, x = .ref a ∧ H a = some (.lst vs) ∧ FDs K F H vs xs ∧ ¬ F a ∧ H0 a = none
  | .bo xs, x => ∃ a vs, x = .ref a ∧ H a = some (.lst vs) ∧ FDs K F H vs xs ∧ a ≠ g.C ∧ g.He a = none ∧ ¬ F a
  | .src, x => x = .ref g.A
  | .nk kvs, x => ∃ a vvs, x = .ref a ∧ H a = some (.dK vvs) ∧ KVs K F H vvs kvs ∧ H0 a = none
  | .nt kvs, x => ∃ a vvs, x = .ref a ∧ H a = some (.dT vvs) ∧ KVs K F H vvs kvs ∧ H0 a = none
  | .bk kvs, x => ∃ a vvs, x = .ref a ∧ H a = some (.dK vvs) ∧ KVs K F H vvs kvs ∧ a ≠ g.A
  | .bt kvs, x => ∃ a vvs, x = .ref a ∧ H a = some (.dT vvs) ∧ KVs K F H vvs kvs ∧ a ≠ g.A
  | .it _, _ => False
  | .st _, _ => False
abbrev RRs (K : PySem.W.Frag) (g : G) (F : Addr → Prop) (H0 H : Hp) : List R → List V → Prop := Paired (RR K g F H0 H)
/-- readable as it stands -/
def RD (K : PySem.W.Frag) (F : Addr → Prop) (H : Hp) (x : V) (d : D) : Prop :=
  FD K F H x d ∨ ∃ a vs xs, d = .list xs ∧ x = .ref a ∧ H a = some (.lst vs) ∧ FDs K F H vs xs
section
variable {K : PySem.W.Frag} {g : G} {F F1 F2 F' : Addr → Prop} {ss ss' : SS} {sl : List SV} {σ : L2.St} {H H0 H1 H2 H' : Hp} {r : R} {x : V} {d : D}
/-- later -/
theorem RR.keep (h : RR K g F H0 H r x) (gr : Gr g F F' H H') (hf : ¬ F g.C) (h0 : Gr g F1 F H0 H) : RR K g F' H0 H' r x := by
  have k : Ke K F F' H H' := gr.ke hf
  obtain ⟨s0, s1, e0, e1⟩ := gr.src
  obtain ⟨t0, t1, z0, z1⟩ := h0.src
  have kL : ∀ {a : Addr} {vs : List V}, H a = some (.lst vs) → a ≠ g.C → H' a = some (.lst vs) := fun {a vs} e nc =>
    gr.keep a _ e (fun z => by subst z; rw [e0.1] at e; cases e) nc
  have nC : ∀ {a : Addr}, H0 a = none → a ≠ g.C := fun {a} e z => by subst z; rw [z0.2.1] at e; cases e
  have nA : ∀ {a : Addr}, H0 a = none → a ≠ g.A := fun {a} e z => by subst z; rw [z0.1] at e; cases e
  have nF : ∀ {a : Addr} {o : HO}, H a = some o → ¬ F a → ¬ F' a := fun {a o} e nf f => by
    rcases gr.new a f with f | f
    · exact nf f
    · rw [e] at f; cases f
  cases r with
  | v d => exact FD.keep k h
  | fr xs => obtain ⟨a, vs, e, h1, h2, h3, h4⟩ := h; exact ⟨a, vs, e, kL h1 (nC h4), h2.keep k, nF h1 h3, h4⟩
  | bo xs => obtain ⟨a, vs, e, h1, h2, h3, h4, h5⟩ := h; exact ⟨a, vs, e, kL h1 h3, h2.keep k, h3, h4, nF h1 h5⟩
  | src => exact h
  | nk kvs => obtain ⟨a, vvs, e, h1, h2, h3⟩ := h; exact ⟨a, vvs, e, gr.keep a _ h1 (nA h3) (nC h3), Paired.mapP h2 fun p q z => ⟨z.1, z.2.keep k⟩, h3⟩
  | nt kvs => obtain ⟨a, vvs, e, h1, h2, h3⟩ := h; exact ⟨a, vvs, e, gr.keep a _ h1 (nA h3) (nC h3), Paired.mapP h2 fun p q z => ⟨z.1, z.2.keep k⟩, h3⟩
  | bk kvs => obtain ⟨a, vvs, e, h1, h2, h3⟩ := h; exact ⟨a, vvs, e, gr.keep a _ h1 h3 (fun z => by subst z; rw [e0.2.1] at h1; cases h1), Paired.mapP h2 fun p q z => ⟨z.1, z.2.keep k⟩, h3⟩
  | bt kvs => obtain ⟨a, vvs, e, h1, h2, h3⟩ := h; exact ⟨a, vvs, e, gr.keep a _ h1 h3 (fun z => by subst z; rw [e0.2.1] at h1; cases h1), Paired.mapP h2 fun p q z => ⟨z.1, z.2.keep k⟩, h3⟩
  | it _ => exact h.elim
  | st _ => exact h.elim
/-- told from an earlier heap -/
theorem RR.early (h : RR K g F H1 H r x) (gr : Gr g F1 F2 H0 H1) : RR K g F H0 H r x := by
  cases r with
  | v d => exact h
  | fr xs => obtain ⟨a, vs, e, h1, h2, h3, h4⟩ := h; exact ⟨a, vs, e, h1, h2, h3, gr.back h4⟩
  | bo xs => exact h
  | src => exact h
  | nk kvs => obtain ⟨a, vvs, e, h1, h2, h3⟩ := h; exact ⟨a, vvs, e, h1, h2, gr.back h3⟩
  | nt kvs => obtain ⟨a, vvs, e, h1, h2, h3⟩ := h; exact ⟨a, vvs, e, h1, h2, gr.back h3⟩
  | bk kvs => exact h
  | bt kvs => exact h
  | it _ => exact h
  | st _ => exact h
theorem RR.rd (h : RR K g F H0 H r x) (e : rd r = some d) : RD K F H x d := by
  cases r with
  | v d' => cases e; exact .inl h
  | fr xs => cases e; obtain ⟨a, vs, rfl, h1, h2, _⟩ := h; exact .inr ⟨a, vs, xs, rfl, rfl, h1, h2⟩
  | bo xs => cases e; obtain ⟨a, vs, rfl, h1, h2, _⟩ := h; exact .inr ⟨a, vs, xs, rfl, rfl, h1, h2⟩
  | _ => cases e
/-- to be kept: the new list is one of those that nobody changes -/
theorem RR.esc (h : RR K g F H0 H r x) (e : esc r = some d) (gr : Gr g F1 F H0 H) : ∃ F', Gr g F1 F' H0 H ∧ FD K F' H x d := by
  have c := gr.fC
  obtain ⟨s0, s1, e0, e1⟩ := gr.src
  cases r with
  | v d' => cases e; exact ⟨F, gr, h⟩
  | fr xs =>
    cases e
    obtain ⟨a, vs, rfl, h1, h2, h3, h4⟩ := h
    have nC : a ≠ g.C := fun z => by subst z; rw [e0.2.1] at h4; cases h4
    have dom : ∀ b, (F b ∨ b = a) → ∃ vs, H b = some (.lst vs) := fun b f => by
      rcases f with f | rfl
      · exact gr.dom b f
      · exact ⟨vs, h1⟩
    have fC : ¬ (F g.C ∨ g.C = a) := fun f => f.elim c fun z => nC z.symm
    refine ⟨fun b => F b ∨ b = a, ⟨gr.keep, fun b f => .inl (gr.sub b f), fun b f => ?_, dom, fC, s0, s1, e0, e1⟩, .lst (.inr rfl) h1 (h2.keep ⟨fun _ _ z => z, fun _ _ f z => ⟨.inl f, z⟩⟩)⟩
    rcases f with f | rfl
    · exact gr.new b f
    · exact .inr h4
  | _ => cases e
theorem RD.dp (h : RD K F H x d) : Dp K H x d := by
  rcases h with h | ⟨a, vs, xs, rfl, rfl, h1, h2⟩
  · exact h.dp
  · exact .lst (.of h1) h2.dp
theorem RD.keep (h : RD K F H x d) (k : Ke K F F' H H') (hl : ∀ a vs, x = .ref a → H a = some (.lst vs) → H' a = some (.lst vs)) : RD K F' H' x d := by
  rcases h with h | ⟨a, vs, xs, rfl, rfl, h1, h2⟩
  · exact .inl (h.keep k)
  · exact .inr ⟨a, vs, xs, rfl, rfl, hl _ _ rfl h1, h2.keep k⟩
end
end Pm
namespace Pm
open PySem PySem.Spec PyProof.Rows L2
/-- what follows a value r, made at H -/
def Kt (K : PySem.W.Frag) (g : G) (F : Addr → Prop) (ss : SS) (H : Hp) (r : R) (Q : VK) : Prop := ∀ z H' F', Gr g F F' H H' → SrcOk g.A g.C ss H' → RR K g F' H H' r z → Q z H'
/-- what holds where values are reckoned with -/
structure At (K : PySem.W.Frag) (g : G) (F : Addr → Prop) (ss : SS) (H : Hp) : Prop where
  dom : ∀ a, F a → ∃ vs, H a = some (.lst vs)
  fC : ¬ F g.C
  src : SrcOk g.A g.C ss H
section
variable {K : PySem.W.Frag} {g : G} {F : Addr → Prop} {ss : SS} {sl : List SV} {σ : L2.St} {H : Hp} {Q : VK} {d : D} {r : R} {xs : List D} {vs : List V}
theorem Rp.at (r : Rp K g F ss sl σ H) : At K g F ss H := ⟨r.dom, r.fC, r.src⟩
theorem Gr.at {F' : Addr → Prop} {H' : Hp} (r : Gr g F F' H H') (s : SrcOk g.A g.C ss H') : At K g F' ss H' := ⟨r.dom, r.fC, s⟩
theorem At.gr (a : At K g F ss H) : Gr g F F H H := .refl a.src a.dom a.fC
theorem At.ne (r : At K g F ss H) {p : Addr} (hp : H p = none) : g.A ≠ p ∧ g.C ≠ p :=
  ⟨fun z => (by rw [← z, r.src.1] at hp; cases hp), fun z => (by rw [← z, r.src.2.1] at hp; cases hp)⟩
theorem At.upd (r : At K g F ss H) {p : Addr} {o : HO} (hp : H p = none) : Gr g F F H (upd H p o) := by
  obtain ⟨nA, nC⟩ := r.ne hp
  refine ⟨fun a u e _ _ => ?_, fun _ h => h, fun _ h => .inl h, fun a f => ?_, r.fC, ss, ss, r.src, r.src.upd nA nC⟩
  · rw [upd_ne (ne_of_none e hp)]; exact e
  · obtain ⟨vs, e⟩ := r.dom a f
    exact ⟨vs, by rw [upd_ne (ne_of_none e hp)]; exact e⟩
theorem At.nf (r : At K g F ss H) {p : Addr} (hp : H p = none) : ¬ F p := fun f => by
  obtain ⟨vs, e⟩ := r.dom p f
  rw [hp] at e; cases e
theorem At.ke (r : At K g F ss H) {p : Addr} {o : HO} (hp : H p = none) : Ke K F F H (L2.upd H p o) := (r.upd hp).ke r.fC
/-- a value that is there -/
theorem Kt.val {x : V} (a : At K g F ss H) (k : Kt K g F ss H (.v d) Q) (h : FD K F H x d) : Q x H := k x H F a.gr a.src h
/-- a new list -/
theorem Kt.lst {p : Addr} (a : At K g F ss H) (k : Kt K g F ss H (.fr xs) Q) (h : FDs K F H vs xs) (hp : H p = none) : Q (.ref p) (upd H p (.lst vs)) :=
  k _ _ F (a.upd hp) (a.src.upd (a.ne hp).1 (a.ne hp).2) ⟨p, vs, rfl, upd_same, h.keep (a.ke hp), a.nf hp, hp⟩
/-- a new tuple -/
theorem Kt.tup {p : Addr} (a : At K g F ss H) (k : Kt K g F ss H (.v (.tuple xs)) Q) (h : FDs K F H vs xs) (hp : H p = none) : Q (.ref p) (upd H p (.tup vs)) :=
  k _ _ F (a.upd hp) (a.src.upd (a.ne hp).1 (a.ne hp).2) (.tup (.of upd_same) (h.keep (a.ke hp)))
theorem RD.int {x : V} {i : Int} (h : RD K F H x (.int i)) : x = .int i := by
  rcases h with h | ⟨_, _, _, e, _⟩
  · cases h; rfl
  · cases e
theorem RD.bool {x : V} {i : Bool} (h : RD K F H x (.bool i)) : x = .bl i := by
  rcases h with h | ⟨_, _, _, e, _⟩
  · cases h; rfl
  · cases e
theorem RD.str {x : V} {i : Str} (h : RD K F H x (.str i)) : x = .str i := by
  rcases h with h | ⟨_, _, _, e, _⟩
  · cases h; rfl
  · cases e
theorem RD.none {x : V} (h : RD K F H x .none) : x = .non := by
  rcases h with h | ⟨_, _, _, e, _⟩
  · cases h; rfl
  · cases e
theorem RD.tup {x : V} {xs : List D} (h : RD K F H x (.tuple xs)) : ∃ a vs, x = .ref a ∧ SqT K H a vs ∧ FDs K F H vs xs := by
  rcases h with h | ⟨_, _, _, e, _⟩
  · cases h with | tup s r => exact ⟨_, _, rfl, s, r⟩
  · cases e
theorem RD.lst {x : V} {xs : List D} (h : RD K F H x (.list xs)) : ∃ a vs, x = .ref a ∧ H a = some (.lst vs) ∧ FDs K F H vs xs := by
  rcases h with h | ⟨a, vs, ys, e, e2, h1, h2⟩
  · cases h with | lst f e r => exact ⟨_, _, rfl, e, r⟩
  · cases e; exact ⟨a, vs, e2, h1, h2⟩
theorem RD.seq {x : V} {xs : List D} (h : RD K F H x d) (e : seqOf d = some xs) : ∃ a vs, x = .ref a ∧ (SqL K H a vs ∨ SqT K H a vs) ∧ FDs K F H vs xs := by
  cases d with
  | list ys => cases e; obtain ⟨a, vs, e1, e2, r⟩ := h.lst; exact ⟨a, vs, e1, .inl (.of e2), r⟩
  | tuple ys => cases e; obtain ⟨a, vs, e1, e2, r⟩ := h.tup; exact ⟨a, vs, e1, .inr e2, r⟩
  | _ => cases e
end
theorem SL_eq : sizeLine = SL := sizeLine_eq
section
variable {X : Cx}
/-- a two-place rule by the values that are read -/
def rB (K : PySem.W.Frag) (g : G) (f : D → D → Option R) : R2 := fun x y H Q => ∃ F ss dx dy r, At K g F ss H ∧ RD K F H x dx ∧ RD K F H y dy ∧ f dx dy = some r ∧ Kt K g F ss H r Q
theorem op_addD {g : G} : OpR X (binaryOp .Add) (rB X.K g addD) := by
  intro pins s σ H x y v u Q I rx ry ⟨F, ss, dx, dy, r, a, hx, hy, e, k⟩
  unfold addD at e
  split at e
  · cases e
    obtain rfl := hx.int; obtain rfl := hy.int
    exact op_add pins s σ H _ _ v u Q I rx ry ⟨_, _, rfl, rfl, k.val a (.int _)⟩
  · split at e <;> cases e
    rename_i hl
    obtain ⟨p, vs, rfl, sp, fp⟩ := hx.tup
    obtain ⟨q, ws, rfl, sq, fq⟩ := hy.tup
    refine op_catA pins s σ H _ _ v u Q I rx ry ⟨p, q, vs, ws, rfl, rfl, sp, sq, by rw [fp.length, fq.length, SL_eq]; exact hl, fun z => ?_, fun _ z => ?_, fun _ _ c hc => ?_⟩
    · subst z; cases fp; exact k.val a (.tup sq fq)
    · subst z; cases fq; rw [List.append_nil] at k; exact k.val a (.tup sp fp)
    · exact k.tup a (fp.append fq) hc
  · split at e <;> cases e
    rename_i hl
    obtain ⟨p, vs, rfl, sp, fp⟩ := hx.lst
    obtain ⟨q, ws, rfl, sq, fq⟩ := hy.lst
    exact op_cat pins s σ H _ _ v u Q I rx ry ⟨p, q, vs, ws, rfl, rfl, sp, sq, by rw [fp.length, fq.length, SL_eq]; exact hl, fun c hc => k.lst a (fp.append fq) hc⟩
  · split at e <;> cases e
    rename_i hl
    obtain rfl := hx.str; obtain rfl := hy.str
    exact op_add_str pins s σ H _ _ v u Q I rx ry ⟨_, _, rfl, rfl, by rw [SL_eq]; exact hl, k.val a (.str _)⟩
  · cases e
theorem op_subD {g : G} : OpR X (binaryOp .Sub) (rB X.K g subD) := by
  intro pins s σ H x y v u Q I rx ry ⟨F, ss, dx, dy, r, a, hx, hy, e, k⟩
  unfold subD at e
  split at e
  · cases e
    obtain rfl := hx.int; obtain rfl := hy.int
    exact op_sub pins s σ H _ _ v u Q I rx ry ⟨_, _, rfl, rfl, k.val a (.int _)⟩
  · cases e
theorem op_mulD {g : G} : OpR X (binaryOp .Mult) (rB X.K g mulD) := by
  intro pins s σ H x y v u Q I rx ry ⟨F, ss, dx, dy, r, a, hx, hy, e, k_⟩
  unfold mulD at e
  split at e
  · split at e <;> cases e
    rename_i i j hl
    obtain rfl := hx.int; obtain rfl := hy.int
    rcases hl with hl | hl | hl
    · exact op_mul pins s σ H _ _ v u Q I rx ry ⟨_, _, rfl, rfl, .inl (by omega), k_.val a (.int _)⟩
    · exact op_mul pins s σ H _ _ v u Q I rx ry ⟨_, _, rfl, rfl, .inr (by omega), k_.val a (.int _)⟩
    · exact op_mulW pins s σ H _ _ v u Q I rx ry ⟨_, _, rfl, rfl, hl, k_.val a (.int _)⟩
  · split at e <;> cases e
    rename_i hl
    obtain ⟨p, vs, rfl, sp, fp⟩ := hx.lst
    obtain rfl := hy.int
    exact op_rep pins s σ H _ _ v u Q I rx ry ⟨p, _, vs, rfl, rfl, sp, by omega, by omega, by rw [fp.length, SL_eq]; exact hl.2.2, fun c hc => k_.lst a (fp.rep _) hc⟩
  · split at e <;> cases e
    rename_i xs k hl
    obtain ⟨⟨h1, h2⟩, hl⟩ := hl
    obtain ⟨p, vs, rfl, sp, fp⟩ := hx.tup
    obtain rfl := hy.int
    have e1 := fp.length
    by_cases hs : vs = [] ∨ k = 1
    · have ee : (List.replicate k.toNat xs).flatten = xs := by
        rcases hs with hs | hs
        · subst hs; cases fp; simp
        · subst hs; simp [List.replicate]
      rw [ee] at k_
      exact op_repS pins s σ H _ _ v u Q I rx ry ⟨p, _, vs, rfl, rfl, sp, h1, h2, .inl ⟨hs, k_.val a (.tup sp fp)⟩⟩
    · rw [not_or] at hs
      by_cases hk : k ≤ 0
      · have ee : (List.replicate k.toNat xs).flatten = [] := by
          have : k.toNat = 0 := by omega
          rw [this]; rfl
        rw [ee] at k_
        exact op_repS pins s σ H _ _ v u Q I rx ry ⟨p, _, vs, rfl, rfl, sp, h1, h2, .inr ⟨hk, hs.1, fun c hc => k_.tup a .nil hc⟩⟩
      · have hv : vs.length ≠ 0 := fun z => hs.1 (List.eq_nil_of_length_eq_zero z)
        exact op_repT pins s σ H _ _ v u Q I rx ry ⟨p, _, vs, rfl, rfl, sp, hs.1, by omega, by omega, by omega, fun c hc => k_.tup a (fp.rep _) hc⟩
  · cases e
theorem op_fdivD {g : G} : OpR X (binaryOp .FloorDiv) (rB X.K g fdivD) := by
  intro pins s σ H x y v u Q I rx ry ⟨F, ss, dx, dy, r, a, hx, hy, e, k⟩
  unfold fdivD at e
  split at e
  · split at e <;> cases e
    rename_i hl
    obtain rfl := hx.int; obtain rfl := hy.int
    exact op_fdivW pins s σ H _ _ v u Q I rx ry ⟨_, _, rfl, rfl, hl, k.val a (.int _)⟩
  · cases e
theorem op_modD {g : G} : OpR X (binaryOp .Mod) (rB X.K g modD) := by
  intro pins s σ H x y v u Q I rx ry ⟨F, ss, dx, dy, r, a, hx, hy, e, k⟩
  unfold modD at e
  split at e
  · split at e <;> cases e
    rename_i hl
    obtain rfl := hx.int; obtain rfl := hy.int
    exact op_mod pins s σ H _ _ v u Q I rx ry ⟨_, _, rfl, rfl, hl, k.val a (.int _)⟩
  · cases e
theorem op_powD {g : G} : OpR X (binaryOp .Pow) (rB X.K g powD) := by
  intro pins s σ H x y v u Q I rx ry ⟨F, ss, dx, dy, r, a, hx, hy, e, k⟩
  unfold powD at e
  split at e
  · split at e <;> cases e
    rename_i hl
    obtain rfl := hx.int; obtain rfl := hy.int
    exact op_pow pins s σ H _ _ v u Q I rx ry ⟨_, _, rfl, rfl, ⟨hl.1, hl.2.1, hl.2.2⟩, k.val a (.int _)⟩
  · cases e
def opOf : BOp → Operator
  | .add => .Add | .sub => .Sub | .mul => .Mult | .fdiv => .FloorDiv | .mod => .Mod | .pow => .Pow
theorem op_binD {g : G} (o : BOp) : OpR X (binaryOp (opOf o)) (rB X.K g (binD o)) := by
  cases o
  · exact op_addD
  · exact op_subD
  · exact op_mulD
  · exact op_fdivD
  · exact op_modD
  · exact op_powD
/-- comparisons -/
def rC (K : PySem.W.Frag) (g : G) (f : D → D → Option Bool) : R2 := fun x y H Q => ∃ F ss dx dy b, At K g F ss H ∧ RD K F H x dx ∧ RD K F H y dy ∧ f dx dy = some b ∧ Kt K g F ss H (bl b) Q
theorem shaped_int (i : Int) : SeqAt.shaped (.int i) = true := rfl
theorem eqD_of {a b : D} {r : Bool} (e : eqD a b = some r) : (∃ x y, a = .str x ∧ b = .str y ∧ r = (x == y)) ∨ (SeqAt.shaped a = true ∧ SeqAt.shaped b = true ∧ r = PyData.eqv a b) := by
  unfold eqD at e
  split at e
  · cases e; exact .inr ⟨rfl, rfl, by simp [PyData.eqv]⟩
  · cases e; exact .inl ⟨_, _, rfl, rfl, rfl⟩
  · split at e <;> cases e
    rename_i h
    exact .inr ⟨h.1, h.2, rfl⟩
theorem op_eqG {g : G} (hu : X.A.units + 64 < cLine) : OpR X (compareOp .Eq) (rC X.K g eqD) := by
  intro pins s σ H x y v u Q I rx ry ⟨F, ss, dx, dy, b, a, hx, hy, e, k⟩
  rcases eqD_of e with ⟨p, q, rfl, rfl, rfl⟩ | ⟨h1, h2, rfl⟩
  · obtain rfl := hx.str
    obtain rfl := hy.str
    exact op_eq pins s σ H _ _ v u Q I rx ry ⟨rfl, by rw [dec_str]; exact k.val a (.bl _)⟩
  · exact op_eqD hu pins s σ H _ _ v u Q I rx ry ⟨dx, dy, hx.dp, hy.dp, h1, h2, k.val a (.bl _)⟩
theorem op_neG {g : G} (hu : X.A.units + 64 < cLine) : OpR X (compareOp .NotEq) (rC X.K g fun x y => (eqD x y).map (!·)) := by
  intro pins s σ H x y v u Q I rx ry ⟨F, ss, dx, dy, b, a, hx, hy, e, k⟩
  obtain ⟨c, e1, rfl⟩ := Option.map_eq_some_iff.mp e
  rcases eqD_of e1 with ⟨p, q, rfl, rfl, rfl⟩ | ⟨h1, h2, rfl⟩
  · obtain rfl := hx.str
    obtain rfl := hy.str
    exact op_ne pins s σ H _ _ v u Q I rx ry ⟨rfl, by rw [dec_str]; exact k.val a (.bl _)⟩
  · exact op_neD hu pins s σ H _ _ v u Q I rx ry ⟨dx, dy, hx.dp, hy.dp, h1, h2, k.val a (.bl _)⟩
theorem op_ordG {g : G} {op : CmpOp} {f : Int → Int → Bool} (h : OpR X (compareOp op) (rI0 fun i j => .bl (f i j))) : OpR X (compareOp op) (rC X.K g (ordD f)) := by
  intro pins s σ H x y v u Q I rx ry ⟨F, ss, dx, dy, b, a, hx, hy, e, k⟩
  unfold ordD at e
  split at e
  · cases e
    obtain rfl := hx.int; obtain rfl := hy.int
    exact h pins s σ H _ _ v u Q I rx ry ⟨_, _, rfl, rfl, k.val a (.bl _)⟩
  · cases e
theorem flatD_of {F : Addr → Prop} {K : PySem.W.Frag} {H : Hp} {x : V} {d : D} (h : FD K F H x d) (f : flatD d = true) : flatV x = true := by
  cases h <;> first | rfl | simp [flatD] at f
theorem flatD_all {F : Addr → Prop} {K : PySem.W.Frag} {H : Hp} : ∀ {xs : List V} {ds : List D}, FDs K F H xs ds → ds.all flatD = true → xs.all flatV = true
  | _, _, .nil, _ => rfl
  | _, _, .cons r t, f => by
    simp only [List.all_cons, Bool.and_eq_true] at f ⊢
    exact ⟨flatD_of r f.1, flatD_all t f.2⟩
theorem eqV_of {F : Addr → Prop} {K : PySem.W.Frag} {H : Hp} {x y : V} {d e : D} (h : FD K F H x d) (f : flatD d = true) (h' : FD K F H y e) (f' : flatD e = true) : eqV x y = PyData.eqv d e := by
  cases h <;> cases h' <;> first | rfl | (simp [eqV, PyData.eqv]; done) | (simp [flatD] at f; done) | (simp [flatD] at f'; done)
theorem inV_of {F : Addr → Prop} {K : PySem.W.Frag} {H : Hp} {x : V} {d : D} (h : FD K F H x d) (f : flatD d = true) : ∀ {ys : List V} {ds : List D}, FDs K F H ys ds → ds.all flatD = true → inV x ys = ds.any fun z => PyData.eqv z d
  | _, _, .nil, _ => rfl
  | _, _, .cons r t, g => by
    simp only [List.all_cons, Bool.and_eq_true] at g
    have ih := inV_of h f t g.2
    unfold inV at ih ⊢
    rw [List.any_cons, List.any_cons, ih, eqV_of r g.1 h f]
theorem op_inG {g : G} (hu : X.A.units + 65 < cLine) : OpR X (compareOp .In) (rC X.K g inD) := by
  intro pins s σ H x y v u Q I rx ry ⟨F, ss, dx, dy, b, a, hx, hy, e, k⟩
  unfold inD at e
  split at e
  · split at e <;> cases e
    rename_i h
    exact op_inD hu pins s σ H _ _ v u Q I rx ry ⟨dx, _, hx.dp, hy.dp, h.1, h.2, k.val a (.bl _)⟩
  · split at e <;> cases e
    rename_i h
    obtain ⟨p, vs, rfl, sp, fp⟩ := hy.tup
    have hx' : FD X.K F H x dx := by
      rcases hx with hx | ⟨_, _, _, rfl, _⟩
      · exact hx
      · simp [flatD] at h
    refine op_in_seq pins s σ H _ _ v u Q I rx ry ⟨p, vs, rfl, .inr sp, flatD_of hx' h.1, flatD_all fp h.2, ?_⟩
    rw [inV_of hx' h.1 fp h.2]
    exact k.val a (.bl _)
  · cases e
theorem op_notInG {g : G} (hu : X.A.units + 65 < cLine) : OpR X (compareOp .NotIn) (rC X.K g fun x y => (inD x y).map (!·)) := by
  intro pins s σ H x y v u Q I rx ry ⟨F, ss, dx, dy, b, a, hx, hy, e, k⟩
  obtain ⟨c, e1, rfl⟩ := Option.map_eq_some_iff.mp e
  unfold inD at e1
  split at e1
  · split at e1 <;> cases e1
    rename_i h
    exact op_notInD hu pins s σ H _ _ v u Q I rx ry ⟨dx, _, hx.dp, hy.dp, h.1, h.2, k.val a (.bl _)⟩
  · split at e1 <;> cases e1
    rename_i h
    obtain ⟨p, vs, rfl, sp, fp⟩ := hy.tup
    have hx' : FD X.K F H x dx := by
      rcases hx with hx | ⟨_, _, _, rfl, _⟩
      · exact hx
      · simp [flatD] at h
    refine op_notIn_seq pins s σ H _ _ v u Q I rx ry ⟨p, vs, rfl, .inr sp, flatD_of hx' h.1, flatD_all fp h.2, ?_⟩
    rw [inV_of hx' h.1 fp h.2]
    exact k.val a (.bl _)
  · cases e1
theorem isNone_of {F : Addr → Prop} {K : PySem.W.Frag} {H : Hp} {x : V} {d : D} (h : RD K F H x d) : decide (x = .non) = isNone d := by
  rcases h with h | ⟨_, _, _, rfl, rfl, _⟩
  · cases h <;> rfl
  · rfl
end
end Pm
namespace Pm
open PySem PySem.Spec PyProof.Rows PySem.W
/-! ### sorted(x), x a list or a tuple, its items alike -/
section
variable {prog : Program} {w : World} {A : Around} {E : Value → Shared → Prop} {s : Shared}
theorem sorted_go {l : Addr} {T : String} {o : Obj} {vs : List Value} {n : Nat} {Q : Value → Shared → Prop} (hT : T = "list" ∨ T = "tuple") (ho : s.heap.get? l = some o) (hc : o.cls = .type T) (hd : o.data = .seq vs.toArray n) (hz : vs.length ≤ sizeLine)
    (h : ∀ (h1 : Heap), (∀ b o, s.heap.get? b = some o → h1.get? b = some o) → ∀ E', wpAny (model prog w) A.in1.in1 (Builtin.«list.sort» ⟨[.ref h1.objs.size], []⟩) (fun f s' => f = .done (.ret .none) ∧ Q (.ref h1.objs.size) s') E' { s with heap := h1.push (seqObj "list" vs.toArray 0) }) :
    wpAny (model prog w) A (call (.builtin "sorted") [.ref l]) Q E s := by
  refine call_function_entry_kw kind_sorted plain_sorted entry_sorted (args_sorted1 _) ?_
  unfold Builtin.«sorted»
  refine wpAny_bind (m := checkCount "sorted" 1 1 _) (wpAny_pure ?_)
  refine wpAny_bind (wpAny_collect_seq l hT ho hc hd (fun h1 k1 => ?_) (by rw [List.size_toArray]; exact hz))
  have e : vs.toArray.toList = vs := by simp
  rw [e]
  refine wpAny_bind (wpAny_newList ?_ hz)
  show wpAny _ _ _ _ _ { s with heap := h1.push (seqObj "list" vs.toArray 0) }
  refine wpAny_bind (wpAny_holding (wpAny_call_entry_kw slot_list_sort ⟨_, Heap.get?_push_size _ rfl, rfl⟩ entry_list_sort ?_ (args_list_sort _)))
  refine wpAny_mono (h h1 k1 _) (fun f s' hf => ?_) fun _ _ e => e
  obtain ⟨rfl, hq⟩ := hf
  exact ⟨_, rfl, wpAny_pure ⟨_, rfl, hq⟩⟩
theorem sorted_seq {l : Addr} {T : String} {o : Obj} {vs : List Value} {n : Nat} {ds : List PyData} {R : Value → PyData → Prop} {Q : Value → Shared → Prop} (hT : T = "list" ∨ T = "tuple") (ho : s.heap.get? l = some o) (hc : o.cls = .type T) (hd : o.data = .seq vs.toArray n) (hz : vs.length ≤ sizeLine)
    (er : EachIs R vs ds) (rr : EachIs (fun v d => ∃ as, Reads s.heap v d as) vs ds) (hal : AllAlike ds) (hk : Sortable ds) (hu : ∀ d, d ∈ ds → A.units + 2 + d.depth < cLine)
    (h : ∀ (h1 h' : Heap) (out : List Value) (n : Nat), (∀ b o, s.heap.get? b = some o → h1.get? b = some o) → (∀ b o, h1.get? b = some o → h'.get? b = some o) → h'.get? h1.objs.size = some (seqObj "list" out.toArray n) → out.length = ds.length → EachIs R out (ds.mergeSort (dataLe false id)) → Q (.ref h1.objs.size) { s with heap := h' }) :
    wpAny (model prog w) A (call (.builtin "sorted") [.ref l]) Q E s := by
  refine sorted_go hT ho hc hd hz fun h1 k1 E' => ?_
  have hat : (h1.push (seqObj "list" vs.toArray 0)).get? h1.objs.size = some (seqObj "list" vs.toArray 0) := Heap.get?_push_size _ rfl
  have old : ∀ b o, h1.get? b = some o → (sortingHeap (h1.push (seqObj "list" vs.toArray 0)) h1.objs.size vs).get? b = some o := fun b o e => sortingHeap_old (Nat.ne_of_lt (Heap.lt_size e)) (Heap.get?_push_of_some _ e)
  have rr' : EachIs (fun v b => ∃ as, Reads (sortingHeap (h1.push (seqObj "list" vs.toArray 0)) h1.objs.size vs) v (id b) as) vs ds := rr.mono fun _ _ ⟨as, r⟩ => ⟨as, PyProof.Rows.Reads.keeps (fun b o e => old b o (k1 b o e)) r⟩
  have hal' : AllAlike (ds.map id) := by rw [List.map_id]; exact hal
  refine list_sort_vals (κ := dataKind (sortingHeap (h1.push (seqObj "list" vs.toArray 0)) h1.objs.size vs) (ds.map id)) hat ?_ hz ⟨rfl, ?_⟩
  · rw [List.map_id]
    exact SortsAt.data (s := { s with heap := sortingHeap (h1.push (seqObj "list" vs.toArray 0)) h1.objs.size vs }) rr' hal hk hu
  · obtain ⟨e, he⟩ := sortedHeap_at (out := (sortVals (dataKind (sortingHeap (h1.push (seqObj "list" vs.toArray 0)) h1.objs.size vs) (ds.map id)) false vs vs).toArray) hat
    refine h h1 _ _ e k1 (fun b o q => ?_) he ?_ (sortVals_data false er rr' hal')
    · have hb := Heap.lt_size q
      rw [sortedHeap_old (Nat.ne_of_lt hb) (by rw [size_push']; exact Nat.lt_succ_of_lt hb)]
      exact Heap.get?_push_of_some _ q
    · rw [sortVals_length false rfl]; exact er.length
end
end Pm
namespace Pm
open PySem PySem.Spec PyProof.Rows L2
/-! ### readings -/
section
variable (K : PySem.W.Frag) (g : G)
def LE (m : SS → O R) (sl : List SV) : TE := fun σ H Q => ∃ F ss r ss', m ss = some (r, ss') ∧ Rp K g F ss sl σ H ∧ ∀ x H' F', Gr g F F' H H' → Rp K g F' ss' sl σ H' → RR K g F' H H' r x → Q x H'
def LT (m : SS → O Bool) (sl : List SV) : TT := fun σ H Q => ∃ F ss r ss', m ss = some (r, ss') ∧ Rp K g F ss sl σ H ∧ ∀ H' F', Gr g F F' H H' → Rp K g F' ss' sl σ H' → Q r H'
def LA (m : SS → O (List R)) (sl : List SV) : TA := fun σ H Q => ∃ F ss r ss', m ss = some (r, ss') ∧ Rp K g F ss sl σ H ∧ ∀ xs H' F', Gr g F F' H H' → Rp K g F' ss' sl σ H' → RRs K g F' H H' r xs → Q xs H'
/-- a display's items -/
def LX (m : SS → O (List D)) (sl : List SV) : TA := fun σ H Q => ∃ F ss r ss', m ss = some (r, ss') ∧ Rp K g F ss sl σ H ∧ ∀ xs H' F', Gr g F F' H H' → Rp K g F' ss' sl σ H' → FDs K F' H' xs r → Q xs H'
end
theorem PE.imp {X : Cx} {e : Expr} {t t' : TE} (h : PE X e t) (i : ∀ σ H Q, t' σ H Q → t σ H Q) : PE X e t' := ⟨fun pins s σ H Q I q => h.run pins s σ H Q I (i σ H Q q)⟩
theorem PT.imp {X : Cx} {e : Expr} {t t' : TT} (h : PT X e t) (i : ∀ σ H Q, t' σ H Q → t σ H Q) : PT X e t' := ⟨fun pins s σ H Q I q => h.run pins s σ H Q I (i σ H Q q)⟩
theorem PA.imp {X : Cx} {e : List Expr} {t t' : TA} (h : PA X e t) (i : ∀ σ H Q, t' σ H Q → t σ H Q) : PA X e t' := ⟨fun pos pins s σ H Q I q => h.run pos pins s σ H Q I (i σ H Q q)⟩
theorem bind_of {α β : Type} {x : Option α} {f : α → Option β} {r : β} (e : x.bind f = some r) : ∃ a, x = some a ∧ f a = some r := Option.bind_eq_some_iff.mp e
theorem map_of {α β : Type} {x : Option α} {f : α → β} {r : β} (e : x.map f = some r) : ∃ a, x = some a ∧ f a = r := Option.map_eq_some_iff.mp e
theorem O.f_of {α β : Type} {f : α → Option β} {x : O α} {b : β} {ss : SS} (e : x.f f = some (b, ss)) : ∃ a, x = some (a, ss) ∧ f a = some b := by
  obtain ⟨⟨a, s⟩, e1, e2⟩ := bind_of e
  obtain ⟨c, e3, e4⟩ := map_of e2
  cases e4
  exact ⟨a, e1, e3⟩
section
variable {K : PySem.W.Frag} {g : G} {sl : List SV} {σ : L2.St} {H : Hp} {Q : VK} {ma mb mc m : SS → O R}
theorem LE.two {f : D → D → Option R} (hm : ∀ ss, m ss = (toD (ma ss)).bind fun p => (toD (mb p.2)).bind fun q => (f p.1 q.1).map fun r => (r, q.2)) (h : LE K g m sl σ H Q) :
    tOp (rB K g f) (LE K g ma sl) (LE K g mb sl) σ H Q := by
  obtain ⟨F, ss, r, ss', e, rp, k⟩ := h
  rw [hm] at e
  obtain ⟨⟨da, s1⟩, e1, e⟩ := bind_of e
  obtain ⟨⟨db, s2⟩, e2, e⟩ := bind_of e
  obtain ⟨r', e3, e4⟩ := map_of e
  cases e4
  obtain ⟨ra, ea, e1⟩ := O.f_of e1
  obtain ⟨rb, eb, e2⟩ := O.f_of e2
  exact ⟨F, ss, ra, s1, ea, rp, fun x H1 F1 g1 p1 h1 => ⟨F1, s1, rb, _, eb, p1, fun y H2 F2 g2 p2 h2 =>
    ⟨F2, _, da, db, r, p2.at, (h1.keep g2 p1.fC g1).rd e1, h2.rd e2, e3, fun z H3 F3 g3 s3 h3 => k z H3 F3 (g1.trans (g2.trans g3)) (p2.step g3 s3) (h3.early (g1.trans g2))⟩⟩⟩
theorem LE.cmp {f : D → D → Option Bool} (hm : ∀ ss, m ss = (toD (ma ss)).bind fun p => (toD (mb p.2)).bind fun q => (f p.1 q.1).map fun r => (bl r, q.2)) (h : LE K g m sl σ H Q) :
    tOp (rC K g f) (LE K g ma sl) (LE K g mb sl) σ H Q := by
  obtain ⟨F, ss, r, ss', e, rp, k⟩ := h
  rw [hm] at e
  obtain ⟨⟨da, s1⟩, e1, e⟩ := bind_of e
  obtain ⟨⟨db, s2⟩, e2, e⟩ := bind_of e
  obtain ⟨r', e3, e4⟩ := map_of e
  cases e4
  obtain ⟨ra, ea, e1⟩ := O.f_of e1
  obtain ⟨rb, eb, e2⟩ := O.f_of e2
  exact ⟨F, ss, ra, s1, ea, rp, fun x H1 F1 g1 p1 h1 => ⟨F1, s1, rb, _, eb, p1, fun y H2 F2 g2 p2 h2 =>
    ⟨F2, _, da, db, r', p2.at, (h1.keep g2 p1.fC g1).rd e1, h2.rd e2, e3, fun z H3 F3 g3 s3 h3 => k z H3 F3 (g1.trans (g2.trans g3)) (p2.step g3 s3) (h3.early (g1.trans g2))⟩⟩⟩
/-- a value in, a value out -/
def rU1 (K : PySem.W.Frag) (g : G) (f : D → Option R) : V → Hp → VK → Prop := fun x H Q => ∃ F ss dx r, At K g F ss H ∧ RD K F H x dx ∧ f dx = some r ∧ Kt K g F ss H r Q
theorem LE.one {f : D → Option R} (hm : ∀ ss, m ss = (toD (ma ss)).f f) (h : LE K g m sl σ H Q) : tUn (rU1 K g f) (LE K g ma sl) σ H Q := by
  obtain ⟨F, ss, r, ss', e, rp, k⟩ := h
  rw [hm] at e
  obtain ⟨da, e1, e2⟩ := O.f_of e
  obtain ⟨ra, ea, e1⟩ := O.f_of e1
  exact ⟨F, ss, ra, _, ea, rp, fun x H1 F1 g1 p1 h1 => ⟨F1, _, da, r, p1.at, h1.rd e1, e2, fun z H3 F3 g3 s3 h3 => k z H3 F3 (g1.trans g3) (p1.step g3 s3) (h3.early g1)⟩⟩
theorem asB_of {r : R} {b : Bool} (e : asB r = some b) : r = bl b := by
  cases r with
  | v d => cases d <;> first | (cases e; rfl) | (simp [asB] at e)
  | _ => simp [asB] at e
theorem RR.bl {F : Addr → Prop} {H0 H : Hp} {b : Bool} {x : V} (h : RR K g F H0 H (Pm.bl b) x) : x = .bl b := by
  have h : FD K F H x (.bool b) := h
  cases h; rfl
/-- a test by its value -/
theorem LT.val (h : LT K g (fun ss => toB (ma ss)) sl σ H Qb) : tB (LE K g ma sl) σ H Qb := by
  obtain ⟨F, ss, r, ss', e, rp, k⟩ := h
  obtain ⟨ra, ea, e1⟩ := O.f_of e
  obtain rfl := asB_of e1
  exact ⟨F, ss, _, _, ea, rp, fun x H1 F1 g1 p1 h1 => ⟨r, h1.bl, k H1 F1 g1 p1⟩⟩
theorem LT.and (h : LT K g (fun ss => toB (m ss)) sl σ H Qb) (hm : ∀ ss, m ss = (toB (ma ss)).bind fun p => if p.1 then (toB (mb p.2)).bind fun q => some (Pm.bl q.1, q.2) else some (Pm.bl false, p.2)) :
    tAnd (LT K g (fun ss => toB (ma ss)) sl) (LT K g (fun ss => toB (mb ss)) sl) σ H Qb := by
  obtain ⟨F, ss, r, ss', e, rp, k⟩ := h
  obtain ⟨ra, ea, e1⟩ := O.f_of e
  obtain rfl := asB_of e1
  rw [hm] at ea
  obtain ⟨⟨c, s1⟩, ec, ea⟩ := bind_of ea
  refine ⟨F, ss, c, s1, ec, rp, fun H1 F1 g1 p1 => ?_⟩
  cases c with
  | true =>
    rw [if_pos rfl] at ea ⊢
    obtain ⟨⟨d, s2⟩, ed, ea⟩ := bind_of ea
    cases ea
    exact ⟨F1, s1, _, _, ed, p1, fun H2 F2 g2 p2 => k H2 F2 (g1.trans g2) p2⟩
  | false =>
    rw [if_neg Bool.false_ne_true] at ea ⊢
    cases ea
    exact k H1 F1 g1 p1
theorem LT.or (h : LT K g (fun ss => toB (m ss)) sl σ H Qb) (hm : ∀ ss, m ss = (toB (ma ss)).bind fun p => if p.1 then some (Pm.bl true, p.2) else (toB (mb p.2)).bind fun q => some (Pm.bl q.1, q.2)) :
    tOr (LT K g (fun ss => toB (ma ss)) sl) (LT K g (fun ss => toB (mb ss)) sl) σ H Qb := by
  obtain ⟨F, ss, r, ss', e, rp, k⟩ := h
  obtain ⟨ra, ea, e1⟩ := O.f_of e
  obtain rfl := asB_of e1
  rw [hm] at ea
  obtain ⟨⟨c, s1⟩, ec, ea⟩ := bind_of ea
  refine ⟨F, ss, c, s1, ec, rp, fun H1 F1 g1 p1 => ?_⟩
  cases c with
  | false =>
    rw [if_neg Bool.false_ne_true] at ea ⊢
    obtain ⟨⟨d, s2⟩, ed, ea⟩ := bind_of ea
    cases ea
    exact ⟨F1, s1, _, _, ed, p1, fun H2 F2 g2 p2 => k H2 F2 (g1.trans g2) p2⟩
  | true =>
    rw [if_pos rfl] at ea ⊢
    cases ea
    exact k H1 F1 g1 p1
theorem LT.not (h : LT K g (fun ss => toB (m ss)) sl σ H Qb) (hm : ∀ ss, m ss = (toB (ma ss)).bind fun p => some (Pm.bl (!p.1), p.2)) :
    tNot (LT K g (fun ss => toB (ma ss)) sl) σ H Qb := by
  obtain ⟨F, ss, r, ss', e, rp, k⟩ := h
  obtain ⟨ra, ea, e1⟩ := O.f_of e
  obtain rfl := asB_of e1
  rw [hm] at ea
  obtain ⟨⟨c, s1⟩, ec, ea⟩ := bind_of ea
  cases ea
  exact ⟨F, ss, c, s1, ec, rp, fun H1 F1 g1 p1 => k H1 F1 g1 p1⟩
theorem LE.and (h : LE K g m sl σ H Q) (hm : ∀ ss, m ss = (toB (ma ss)).bind fun p => if p.1 then (toB (mb p.2)).bind fun q => some (Pm.bl q.1, q.2) else some (Pm.bl false, p.2)) :
    tAndV (LE K g ma sl) (LE K g mb sl) σ H Q := by
  obtain ⟨F, ss, r, ss', e, rp, k⟩ := h
  rw [hm] at e
  obtain ⟨⟨c, s1⟩, ec, e⟩ := bind_of e
  obtain ⟨ra, ea, e1⟩ := O.f_of ec
  obtain rfl := asB_of e1
  refine ⟨F, ss, _, s1, ea, rp, fun x H1 F1 g1 p1 h1 => ⟨c, h1.bl, ?_⟩⟩
  cases c with
  | true =>
    rw [if_pos rfl] at e ⊢
    obtain ⟨⟨d, s2⟩, ed, e⟩ := bind_of e
    obtain ⟨rb, eb, e2⟩ := O.f_of ed
    obtain rfl := asB_of e2
    cases e
    exact ⟨F1, s1, _, _, eb, p1, fun y H2 F2 g2 p2 h2 => k y H2 F2 (g1.trans g2) p2 (h2.early g1)⟩
  | false =>
    rw [if_neg Bool.false_ne_true] at e ⊢
    cases e
    exact k _ H1 F1 g1 p1 (FD.bl false)
theorem LE.or (h : LE K g m sl σ H Q) (hm : ∀ ss, m ss = (toB (ma ss)).bind fun p => if p.1 then some (Pm.bl true, p.2) else (toB (mb p.2)).bind fun q => some (Pm.bl q.1, q.2)) :
    tOrV (LE K g ma sl) (LE K g mb sl) σ H Q := by
  obtain ⟨F, ss, r, ss', e, rp, k⟩ := h
  rw [hm] at e
  obtain ⟨⟨c, s1⟩, ec, e⟩ := bind_of e
  obtain ⟨ra, ea, e1⟩ := O.f_of ec
  obtain rfl := asB_of e1
  refine ⟨F, ss, _, s1, ea, rp, fun x H1 F1 g1 p1 h1 => ⟨c, h1.bl, ?_⟩⟩
  cases c with
  | false =>
    rw [if_neg Bool.false_ne_true] at e ⊢
    obtain ⟨⟨d, s2⟩, ed, e⟩ := bind_of e
    obtain ⟨rb, eb, e2⟩ := O.f_of ed
    obtain rfl := asB_of e2
    cases e
    exact ⟨F1, s1, _, _, eb, p1, fun y H2 F2 g2 p2 h2 => k y H2 F2 (g1.trans g2) p2 (h2.early g1)⟩
  | true =>
    rw [if_pos rfl] at e ⊢
    cases e
    exact k _ H1 F1 g1 p1 (FD.bl true)
theorem LE.not (h : LE K g m sl σ H Q) (hm : ∀ ss, m ss = (toB (ma ss)).bind fun p => some (Pm.bl (!p.1), p.2)) : tNotV (LE K g ma sl) σ H Q := by
  obtain ⟨F, ss, r, ss', e, rp, k⟩ := h
  rw [hm] at e
  obtain ⟨⟨c, s1⟩, ec, e⟩ := bind_of e
  obtain ⟨ra, ea, e1⟩ := O.f_of ec
  obtain rfl := asB_of e1
  cases e
  exact ⟨F, ss, _, _, ea, rp, fun x H1 F1 g1 p1 h1 => ⟨c, h1.bl, k _ H1 F1 g1 p1 (FD.bl _)⟩⟩
theorem LE.ife (h : LE K g m sl σ H Q) (hm : ∀ ss, m ss = (toB (mc ss)).bind fun p => if p.1 then ma p.2 else mb p.2) : tIf (LT K g (fun ss => toB (mc ss)) sl) (LE K g ma sl) (LE K g mb sl) σ H Q := by
  obtain ⟨F, ss, r, ss', e, rp, k⟩ := h
  rw [hm] at e
  obtain ⟨⟨c, s1⟩, ec, e⟩ := bind_of e
  refine ⟨F, ss, c, s1, ec, rp, fun H1 F1 g1 p1 => ?_⟩
  cases c with
  | true =>
    rw [if_pos rfl] at e ⊢
    exact ⟨F1, s1, _, _, e, p1, fun y H2 F2 g2 p2 h2 => k y H2 F2 (g1.trans g2) p2 (h2.early g1)⟩
  | false =>
    rw [if_neg Bool.false_ne_true] at e ⊢
    exact ⟨F1, s1, _, _, e, p1, fun y H2 F2 g2 p2 h2 => k y H2 F2 (g1.trans g2) p2 (h2.early g1)⟩
theorem LT.ife (h : LT K g (fun ss => toB (m ss)) sl σ H Qb) (hm : ∀ ss, m ss = (toB (mc ss)).bind fun p => if p.1 then ma p.2 else mb p.2) :
    LT K g (fun ss => toB (mc ss)) sl σ H (fun b H1 => if b = true then LT K g (fun ss => toB (ma ss)) sl σ H1 Qb else LT K g (fun ss => toB (mb ss)) sl σ H1 Qb) := by
  obtain ⟨F, ss, r, ss', e, rp, k⟩ := h
  obtain ⟨ra, ea, e1⟩ := O.f_of e
  rw [hm] at ea
  obtain ⟨⟨c, s1⟩, ec, ea⟩ := bind_of ea
  refine ⟨F, ss, c, s1, ec, rp, fun H1 F1 g1 p1 => ?_⟩
  cases c with
  | true =>
    rw [if_pos rfl] at ea ⊢
    exact ⟨F1, s1, _, _, show (ma s1).f asB = _ by rw [ea]; show (asB ra).map _ = _; rw [e1]; rfl, p1, fun H2 F2 g2 p2 => k H2 F2 (g1.trans g2) p2⟩
  | false =>
    rw [if_neg Bool.false_ne_true] at ea ⊢
    exact ⟨F1, s1, _, _, show (mb s1).f asB = _ by rw [ea]; show (asB ra).map _ = _; rw [e1]; rfl, p1, fun H2 F2 g2 p2 => k H2 F2 (g1.trans g2) p2⟩
theorem LE.chain {f f' : D → D → Option Bool} (h : LE K g m sl σ H Q) (hm : ∀ ss, m ss = (toD (ma ss)).bind fun p => (toD (mb p.2)).bind fun q => (f p.1 q.1).bind fun r =>
      if r then (toD (mc q.2)).bind fun t => (f' q.1 t.1).map fun r => (Pm.bl r, t.2) else some (Pm.bl false, q.2)) :
    tChain (rC K g f) (rC K g f') (LE K g ma sl) (LE K g mb sl) (LE K g mc sl) σ H Q := by
  obtain ⟨F, ss, r, ss', e, rp, k⟩ := h
  rw [hm] at e
  obtain ⟨⟨da, s1⟩, e1, e⟩ := bind_of e
  obtain ⟨⟨db, s2⟩, e2, e⟩ := bind_of e
  obtain ⟨c, e3, e⟩ := bind_of e
  obtain ⟨ra, ea, e1⟩ := O.f_of e1
  obtain ⟨rb, eb, e2⟩ := O.f_of e2
  refine ⟨F, ss, ra, s1, ea, rp, fun x H1 F1 g1 p1 h1 => ⟨F1, s1, rb, _, eb, p1, fun y H2 F2 g2 p2 h2 =>
    ⟨F2, _, da, db, c, p2.at, (h1.keep g2 p1.fC g1).rd e1, h2.rd e2, e3, fun z H3 F3 g3 s3 h3 => ⟨c, h3.bl, ?_⟩⟩⟩⟩
  have p3 := p2.step g3 s3
  have h2' := h2.keep g3 p2.fC g2
  cases c with
  | false =>
    rw [if_neg Bool.false_ne_true] at e ⊢
    cases e
    exact k _ H3 F3 (g1.trans (g2.trans g3)) p3 (FD.bl false)
  | true =>
    rw [if_pos rfl] at e ⊢
    obtain ⟨⟨dc, s4⟩, e4, e⟩ := bind_of e
    obtain ⟨r', e5, e6⟩ := map_of e
    cases e6
    obtain ⟨rc, ec, e4⟩ := O.f_of e4
    exact ⟨F3, s2, rc, _, ec, p3, fun w H4 F4 g4 p4 h4 => ⟨F4, _, db, dc, r', p4.at, (h2'.keep g4 p3.fC (g2.trans g3)).rd e2, h4.rd e4, e5, fun u H5 F5 g5 s5 h5 =>
      k u H5 F5 (g1.trans (g2.trans (g3.trans (g4.trans g5)))) (p4.step g5 s5) (h5.early (g1.trans (g2.trans (g3.trans g4))))⟩⟩
/-- arguments -/
theorem LA.nil (h : LA K g (fun ss => some ([], ss)) sl σ H Qs) : tNil σ H Qs := by
  obtain ⟨F, ss, r, ss', e, rp, k⟩ := h
  cases e
  exact k [] H F rp.gr rp .nil
theorem RRs.keep {F F' F1 : Addr → Prop} {H0 H H' : Hp} : ∀ {rs : List R} {xs : List V}, RRs K g F H0 H rs xs → Gr g F F' H H' → ¬ F g.C → Gr g F1 F H0 H → RRs K g F' H0 H' rs xs
  | _, _, .nil, _, _, _ => .nil
  | _, _, .cons h t, a, b, c => .cons (h.keep a b c) (RRs.keep t a b c)
theorem RRs.early {F F1 F2 : Addr → Prop} {H0 H1 H : Hp} : ∀ {rs : List R} {xs : List V}, RRs K g F H1 H rs xs → Gr g F1 F2 H0 H1 → RRs K g F H0 H rs xs
  | _, _, .nil, _ => .nil
  | _, _, .cons h t, a => .cons (h.early a) (RRs.early t a)
theorem LA.cons {ms m' : SS → O (List R)} (h : LA K g m' sl σ H Qs) (hm : ∀ ss, m' ss = (ma ss).bind fun p => (ms p.2).bind fun q => some (p.1 :: q.1, q.2)) : tCons (LE K g ma sl) (LA K g ms sl) σ H Qs := by
  obtain ⟨F, ss, r, ss', e, rp, k⟩ := h
  rw [hm] at e
  obtain ⟨⟨ra, s1⟩, e1, e⟩ := bind_of e
  obtain ⟨⟨rs, s2⟩, e2, e⟩ := bind_of e
  cases e
  exact ⟨F, ss, ra, s1, e1, rp, fun x H1 F1 g1 p1 h1 => ⟨F1, s1, rs, _, e2, p1, fun xs H2 F2 g2 p2 h2 => k _ H2 F2 (g1.trans g2) p2 (.cons (h1.keep g2 p1.fC g1) (h2.early g1))⟩⟩
/-- a display's items -/
theorem LX.nil (h : LX K g (fun ss => O.f dispR (some (([] : List R), ss))) sl σ H Qs) : tNil σ H Qs := by
  obtain ⟨F, ss, r, ss', e, rp, k⟩ := h
  obtain ⟨a, e1, e2⟩ := O.f_of e
  cases e1
  cases e2
  exact k [] H F rp.gr rp .nil
theorem LX.cons {ms m' : SS → O (List R)} (h : LX K g (fun ss => (m' ss).f dispR) sl σ H Qs) (hm : ∀ ss, m' ss = (ma ss).bind fun p => (ms p.2).bind fun q => some (p.1 :: q.1, q.2)) :
    tCons (LE K g ma sl) (LX K g (fun ss => (ms ss).f dispR) sl) σ H Qs := by
  obtain ⟨F, ss, r, ss', e, rp, k⟩ := h
  obtain ⟨rr, e, e0⟩ := O.f_of e
  rw [hm] at e
  obtain ⟨⟨ra, s1⟩, e1, e⟩ := bind_of e
  obtain ⟨⟨rs, s2⟩, e2, e⟩ := bind_of e
  cases e
  refine ⟨F, ss, ra, s1, e1, rp, fun x H1 F1 g1 p1 h1 => ?_⟩
  have e3 : dispR (ra :: rs) = (esc ra).bind fun d => (dispR rs).map (d :: ·) := by
    cases ra with
    | st xs => exact h1.elim
    | _ => rfl
  have e0 : dispR (ra :: rs) = some r := e0
  rw [e3] at e0
  obtain ⟨d, e4, e5⟩ := bind_of e0
  obtain ⟨ds, e6, e7⟩ := map_of e5
  cases e7
  obtain ⟨F1', g1', f1⟩ := h1.esc e4 g1
  have p1' := rp.step g1' p1.src
  exact ⟨F1', s1, ds, _, by show (ms s1).f dispR = _; rw [e2]; show (dispR rs).map _ = _; rw [e6]; rfl, p1', fun xs H2 F2 g2 p2 h2 => k _ H2 F2 (g1'.trans g2) p2 (.cons (f1.keep (g2.ke p1'.fC)) h2)⟩
theorem LX.star {ms m' : SS → O (List R)} (h : LX K g (fun ss => (m' ss).f dispR) sl σ H Qs) (hm : ∀ ss, m' ss = ((toI (ma ss)).bind fun p => some (R.st p.1, p.2)).bind fun p => (ms p.2).bind fun q => some (p.1 :: q.1, q.2)) :
    StX.tStar K (LE K g ma sl) (LX K g (fun ss => (ms ss).f dispR) sl) σ H Qs := by
  obtain ⟨F, ss, r, ss', e, rp, k⟩ := h
  obtain ⟨rr, e, e0⟩ := O.f_of e
  rw [hm] at e
  obtain ⟨⟨ra, s1⟩, e1, e⟩ := bind_of e
  obtain ⟨⟨rs, s2⟩, e2, e⟩ := bind_of e
  cases e
  obtain ⟨⟨is, s3⟩, e8, e9⟩ := bind_of e1
  cases e9
  obtain ⟨rb, e10, e11⟩ := O.f_of e8
  obtain ⟨ds, e6, e7⟩ := map_of (show (dispR rs).map (is ++ ·) = some r from e0)
  cases e7
  refine ⟨F, ss, rb, _, e10, rp, fun x H1 F1 g1 p1 h1 => ?_⟩
  have e12 : (rd rb).bind seqOf = some is := by
    cases rb with
    | it xs => exact h1.elim
    | _ => exact e11
  obtain ⟨d, e13, e14⟩ := bind_of e12
  obtain ⟨a, vs, rfl, hs, hf⟩ := (h1.rd e13).seq e14
  exact ⟨a, vs, rfl, hs.symm, F1, _, ds, _, by show (ms _).f dispR = _; rw [e2]; show (dispR rs).map _ = _; rw [e6]; rfl, p1, fun xs H2 F2 g2 p2 h2 => k _ H2 F2 (g1.trans g2) p2 ((hf.keep (g2.ke p1.fC)).append h2)⟩
theorem LX.tup {m' : SS → O (List R)} (h : LE K g m sl σ H Q) (hm : ∀ ss, m ss = (toX (m' ss)).bind fun p => some (.v (.tuple p.1), p.2)) : tTup (LX K g (fun ss => (m' ss).f dispR) sl) σ H Q := by
  obtain ⟨F, ss, r, ss', e, rp, k⟩ := h
  rw [hm] at e
  obtain ⟨⟨ds, s1⟩, e1, e⟩ := bind_of e
  cases e
  obtain ⟨⟨ds', s2⟩, e2, e3⟩ := bind_of e1
  split at e3 <;> cases e3
  rename_i hl
  exact ⟨F, ss, ds, _, e2, rp, fun xs H1 F1 g1 p1 h1 => ⟨by rw [h1.length, SL_eq]; exact hl, fun p hp =>
    Kt.tup p1.at (fun z H2 F2 g2 s2 h2 => k z H2 F2 (g1.trans g2) (p1.step g2 s2) (h2.early g1)) h1 hp⟩⟩
theorem LX.lst {m' : SS → O (List R)} (h : LE K g m sl σ H Q) (hm : ∀ ss, m ss = (toX (m' ss)).bind fun p => some (.fr p.1, p.2)) : tLst (LX K g (fun ss => (m' ss).f dispR) sl) σ H Q := by
  obtain ⟨F, ss, r, ss', e, rp, k⟩ := h
  rw [hm] at e
  obtain ⟨⟨ds, s1⟩, e1, e⟩ := bind_of e
  cases e
  obtain ⟨⟨ds', s2⟩, e2, e3⟩ := bind_of e1
  split at e3 <;> cases e3
  rename_i hl
  exact ⟨F, ss, ds, _, e2, rp, fun xs H1 F1 g1 p1 h1 => ⟨by rw [h1.length, SL_eq]; exact hl, fun p hp =>
    Kt.lst p1.at (fun z H2 F2 g2 s2 h2 => k z H2 F2 (g1.trans g2) (p1.step g2 s2) (h2.early g1)) h1 hp⟩⟩
/-- a slot -/
theorem RS.rr {s : SV} {F : Addr → Prop} {r : R} {x : Option V} (h : RS K g F H s x) (e : slR s = some r) : ∃ v, x = some v ∧ RR K g F H H r v := by
  cases s with
  | un => cases e
  | v d => cases e; exact h
  | own xs => cases e; obtain ⟨a, vs, e1, h1, h2, h3, h4, h5⟩ := h; exact ⟨_, e1, a, vs, rfl, h1, h2, h4, h5, h3⟩
  | lock xs => cases e; obtain ⟨a, vs, e1, h1, h2, h3, h4, h5⟩ := h; exact ⟨_, e1, a, vs, rfl, h1, h2, h4, h5, h3⟩
  | dk kvs => cases e; obtain ⟨a, vvs, e1, h1, h2, h3, h4⟩ := h; exact ⟨_, e1, a, vvs, rfl, h1, h2, h3⟩
  | dt kvs => cases e; obtain ⟨a, vvs, e1, h1, h2, h3, h4⟩ := h; exact ⟨_, e1, a, vvs, rfl, h1, h2, h3⟩
  | src => cases e; exact ⟨_, h, rfl⟩
theorem LE.loc {i : Nat} (h : LE K g m sl σ H Q) (hm : ∀ ss, m ss = (getR sl i).map fun r => (r, ss)) : tVar i σ H Q := by
  obtain ⟨F, ss, r, ss', e, rp, k⟩ := h
  rw [hm] at e
  obtain ⟨r', e1, e2⟩ := map_of e
  cases e2
  obtain ⟨s, e3, e4⟩ := bind_of e1
  obtain ⟨x, e5, h1⟩ := rp.slot i s e3
  obtain ⟨v, rfl, h2⟩ := h1.rr e4
  exact ⟨v, e5, k v H F rp.gr rp h2⟩
theorem LE.lit {v : V} {d : D} (h : LE K g m sl σ H Q) (hm : ∀ ss, m ss = some (.v d, ss)) (hd : ∀ F, FD K F H v d) : tC v σ H Q := by
  obtain ⟨F, ss, r, ss', e, rp, k⟩ := h
  rw [hm] at e
  cases e
  exact k v H F rp.gr rp (hd F)
/-- a built-in's arguments -/
def rAs (K : PySem.W.Frag) (g : G) (f : List D → Option R) : List V → Hp → VK → Prop := fun vs H Q => ∃ F ss ds r, At K g F ss H ∧ Paired (RD K F H) vs ds ∧ f ds = some r ∧ Kt K g F ss H r Q
theorem RRs.rds {F : Addr → Prop} {H0 : Hp} : ∀ {rs : List R} {xs : List V} {ds : List D}, RRs K g F H0 H rs xs → rds rs = some ds → Paired (RD K F H) xs ds
  | _, _, _, .nil, e => by cases e; exact .nil
  | _, _, _, .cons h t, e => by
    obtain ⟨a, e1, e2⟩ := bind_of e
    obtain ⟨b, e3, e4⟩ := map_of e2
    cases e4
    exact .cons (h.rd e1) (RRs.rds t e3)
theorem LE.bi {ms : SS → O (List R)} {f : List D → Option R} (h : LE K g m sl σ H Q) (hm : ∀ ss, m ss = (toDs (ms ss)).f f) : tCB (rAs K g f) (LA K g ms sl) σ H Q := by
  obtain ⟨F, ss, r, ss', e, rp, k⟩ := h
  rw [hm] at e
  obtain ⟨ds, e1, e2⟩ := O.f_of e
  obtain ⟨rs, e3, e4⟩ := O.f_of e1
  exact ⟨F, ss, rs, _, e3, rp, fun xs H1 F1 g1 p1 h1 => ⟨F1, _, ds, r, p1.at, h1.rds e4, e2, fun z H3 F3 g3 s3 h3 => k z H3 F3 (g1.trans g3) (p1.step g3 s3) (h3.early g1)⟩⟩
end
end Pm
namespace Pm
open PySem PySem.Spec PyProof.Rows L2
section
variable {K : PySem.W.Frag} {g : G} {F : Addr → Prop} {H : Hp}
theorem one_of {x : List V} {d : D} (h : Paired (RD K F H) x [d]) : ∃ v, x = [v] ∧ RD K F H v d := by
  cases h with
  | cons a t => cases t; exact ⟨_, rfl, a⟩
theorem two_of {x : List V} {d e : D} (h : Paired (RD K F H) x [d, e]) : ∃ v u, x = [v, u] ∧ RD K F H v d ∧ RD K F H u e := by
  cases h with
  | cons a t =>
    cases t with
    | cons b t => cases t; exact ⟨_, _, rfl, a, b⟩
theorem maxI_mem : ∀ (r : List Int) (m : Int), maxI m r ∈ m :: r
  | [], m => by simp [maxI]
  | x :: r, m => by
    unfold maxI
    split
    · exact List.mem_cons_of_mem _ (maxI_mem r x)
    · rcases List.mem_cons.mp (maxI_mem r m) with h | h
      · rw [h]; exact List.mem_cons_self
      · exact List.mem_cons_of_mem _ (List.mem_cons_of_mem _ h)
theorem maxI_le : ∀ (r : List Int) (m : Int), ∀ y ∈ m :: r, y ≤ maxI m r
  | [], m => by simp [maxI]
  | x :: r, m => by
    intro y hy
    unfold maxI
    split
    · have h := maxI_le r x
      rcases List.mem_cons.mp hy with rfl | hy
      · have := h x List.mem_cons_self; omega
      · exact h y hy
    · have h := maxI_le r m
      rcases List.mem_cons.mp hy with rfl | hy
      · exact h y List.mem_cons_self
      · rcases List.mem_cons.mp hy with rfl | hy
        · have := h m List.mem_cons_self; omega
        · exact h y (List.mem_cons_of_mem _ hy)
theorem minI_mem : ∀ (r : List Int) (m : Int), minI m r ∈ m :: r
  | [], m => by simp [minI]
  | x :: r, m => by
    unfold minI
    split
    · exact List.mem_cons_of_mem _ (minI_mem r x)
    · rcases List.mem_cons.mp (minI_mem r m) with h | h
      · rw [h]; exact List.mem_cons_self
      · exact List.mem_cons_of_mem _ (List.mem_cons_of_mem _ h)
theorem minI_le : ∀ (r : List Int) (m : Int), ∀ y ∈ m :: r, minI m r ≤ y
  | [], m => by simp [minI]
  | x :: r, m => by
    intro y hy
    unfold minI
    split
    · have h := minI_le r x
      rcases List.mem_cons.mp hy with rfl | hy
      · have := h x List.mem_cons_self; omega
      · exact h y hy
    · have h := minI_le r m
      rcases List.mem_cons.mp hy with rfl | hy
      · exact h y List.mem_cons_self
      · rcases List.mem_cons.mp hy with rfl | hy
        · have := h m List.mem_cons_self; omega
        · exact h y (List.mem_cons_of_mem _ hy)
theorem insI_perm (x : Int) : ∀ l, (insI x l).Perm (x :: l)
  | [] => .refl _
  | y :: r => by
    unfold insI
    split
    · exact .refl _
    · exact ((insI_perm x r).cons y).trans (.swap x y r)
theorem sortI_perm : ∀ l, (sortI l).Perm l
  | [] => .refl _
  | x :: r => (insI_perm x _).trans ((sortI_perm r).cons x)
theorem insI_sorted (x : Int) : ∀ l : List Int, l.Pairwise (· ≤ ·) → (insI x l).Pairwise (· ≤ ·)
  | [], _ => by simp [insI]
  | y :: r, h => by
    rw [List.pairwise_cons] at h
    unfold insI
    split
    · rename_i hxy
      refine List.pairwise_cons.mpr ⟨fun z hz => ?_, List.pairwise_cons.mpr h⟩
      rcases List.mem_cons.mp hz with rfl | hz
      · exact hxy
      · exact Int.le_trans hxy (h.1 z hz)
    · rename_i hxy
      refine List.pairwise_cons.mpr ⟨fun z hz => ?_, insI_sorted x r h.2⟩
      rcases List.mem_cons.mp ((insI_perm x r).mem_iff.mp hz) with rfl | hz
      · omega
      · exact h.1 z hz
theorem sortI_sorted : ∀ l : List Int, (sortI l).Pairwise (· ≤ ·)
  | [] => .nil
  | x :: r => insI_sorted x _ (sortI_sorted r)
theorem sorted_eq : ∀ {l m : List Int}, l.Perm m → l.Pairwise (· ≤ ·) → m.Pairwise (· ≤ ·) → l = m
  | [], m, p, _, _ => (List.Perm.nil_eq p)
  | x :: r, [], p, _, _ => by have := p.length_eq; simp at this
  | x :: r, y :: t, p, h1, h2 => by
    rw [List.pairwise_cons] at h1 h2
    have e : x = y := by
      have a : x ∈ y :: t := p.mem_iff.mp List.mem_cons_self
      have b : y ∈ x :: r := p.mem_iff.mpr List.mem_cons_self
      rcases List.mem_cons.mp a with a | a
      · exact a
      · rcases List.mem_cons.mp b with b | b
        · exact b.symm
        · have := h1.1 y b
          have := h2.1 x a
          omega
    subst e
    rw [sorted_eq (List.Perm.cons_inv p) h1.2 h2.2]
end
section
variable {X : Cx} {g : G}
theorem bi_len : CallR X (.builtin "len") (rAs X.K g lenD) := by
  intro pins s σ H vs us Q I rv ⟨F, ss, ds, r, a, h0, e, k⟩
  unfold lenD at e
  split at e
  · cases e
    obtain ⟨v, rfl, h⟩ := one_of h0
    obtain ⟨p, ws, rfl, sp, fp⟩ := h.lst
    exact call_len_seq pins s σ H _ us Q I rv ⟨p, ws, rfl, .inl (.of sp), by rw [fp.length]; exact k.val a (.int _)⟩
  · cases e
    obtain ⟨v, rfl, h⟩ := one_of h0
    obtain ⟨p, ws, rfl, sp, fp⟩ := h.tup
    exact call_len_seq pins s σ H _ us Q I rv ⟨p, ws, rfl, .inr sp, by rw [fp.length]; exact k.val a (.int _)⟩
  · cases e
theorem bi_int : CallR X (.type "int") (rAs X.K g intD) := by
  intro pins s σ H vs us Q I rv ⟨F, ss, ds, r, a, h0, e, k⟩
  unfold intD at e
  split at e
  · cases e
    obtain ⟨v, rfl, h⟩ := one_of h0
    obtain rfl := h.int
    exact call_int1 pins s σ H _ us Q I rv (.inl ⟨_, rfl, k.val a (.int _)⟩)
  · cases e
    obtain ⟨v, rfl, h⟩ := one_of h0
    obtain rfl := h.bool
    exact call_int1 pins s σ H _ us Q I rv (.inr ⟨_, rfl, k.val a (.int _)⟩)
  · cases e
theorem bi_abs : CallR X (.builtin "abs") (rAs X.K g absD) := by
  intro pins s σ H vs us Q I rv ⟨F, ss, ds, r, a, h0, e, k⟩
  unfold absD at e
  split at e
  · cases e
    obtain ⟨v, rfl, h⟩ := one_of h0
    obtain rfl := h.int
    exact call_abs pins s σ H _ us Q I rv ⟨_, rfl, k.val a (.int _)⟩
  · cases e
theorem bi_max2 (hc : X.calm = true) : CallR X (.builtin "max") (rAs X.K g max2D) := by
  intro pins s σ H vs us Q I rv ⟨F, ss, ds, r, a, h0, e, k⟩
  unfold max2D at e
  split at e
  · cases e
    obtain ⟨v, u, rfl, h, h'⟩ := two_of h0
    obtain rfl := h.int
    obtain rfl := h'.int
    exact call_max2 hc pins s σ H _ us Q I rv ⟨_, _, rfl, k.val a (.int _)⟩
  · cases e
theorem bi_min2 (hc : X.calm = true) : CallR X (.builtin "min") (rAs X.K g min2D) := by
  intro pins s σ H vs us Q I rv ⟨F, ss, ds, r, a, h0, e, k⟩
  unfold min2D at e
  split at e
  · cases e
    obtain ⟨v, u, rfl, h, h'⟩ := two_of h0
    obtain rfl := h.int
    obtain rfl := h'.int
    exact call_min2 hc pins s σ H _ us Q I rv ⟨_, _, rfl, k.val a (.int _)⟩
  · cases e
theorem foldl_maxI : ∀ (r : List Int) (m : Int), r.foldl max m = maxI m r
  | [], m => rfl
  | x :: r, m => by
    show r.foldl max (max m x) = maxI (if m < x then x else m) r
    rw [foldl_maxI r]
    congr 1
    by_cases h : m < x
    · rw [if_pos h]; omega
    · rw [if_neg h]; omega
theorem depthAll_ints' : ∀ l : List Int, PyData.depthAll (l.map .int) = 0
  | [] => by simp [PyData.depthAll]
  | i :: l => by
    show PyData.depthAll (.int i :: l.map .int) = 0
    rw [PyData.depthAll, depthAll_ints' l]
    simp [PyData.depth]
theorem reads_ints {h : Heap} : ∀ {is : List Int} {its : List Value}, Vals (is.map V.int) its → ∃ as, ReadsAll h its (is.map .int) as
  | [], _, .nil => ⟨_, .nil⟩
  | i :: is, _, .cons r t => by
    obtain ⟨as, e⟩ := reads_ints t
    obtain ⟨tk, rfl⟩ := r
    exact ⟨_, .cons (.int i tk) e⟩
theorem bi_max1 (hc : X.calm = true) (hu : X.A.units + 100 < cLine) : CallR X (.builtin "max") (rAs X.K g max1D) := by
  intro pins s σ H vs us Q I rv ⟨F, ss, ds, r, a, h0, e, k⟩
  unfold max1D at e
  split at e
  · split at e <;> cases e
    rename_i m r e2
    obtain ⟨v, rfl, h⟩ := one_of h0
    obtain ⟨p, ws, rfl, sp, fp⟩ := h.lst
    obtain rfl := fp.ints e2
    refine cr_max hc pins s σ H _ us Q I rv ⟨p, m :: r, rfl, .of sp, by simp, fun n h1 h2 => ?_⟩
    have e3 : n = maxI m r := Int.le_antisymm (maxI_le r m n h1) (h2 _ (maxI_mem r m))
    rw [e3]
    exact k.val a (.int _)
  · split at e <;> cases e
    rename_i m r e2
    obtain ⟨v, rfl, h⟩ := one_of h0
    obtain ⟨p, ws, rfl, sp, fp⟩ := h.tup
    obtain rfl := fp.ints e2
    cases rv with
    | cons rv t =>
      cases t
      cases rv
      obtain ⟨its, rw_, ht, hz⟩ := I.tuple sp
      obtain ⟨as, rd⟩ := reads_ints (h := s.heap) rw_
      refine PySem.W.max_tuple_data (x := .int m) (xs := r.map .int) (as := as) (I.ok.hd hc) ht (by simpa using rd) ⟨fun x hx y hy => ?_, fun x hx => ?_⟩ ?_ fun i v h' tk bs hv hr hk => ?_
      · obtain ⟨i, _, rfl⟩ := List.mem_map.mp (show x ∈ (m :: r).map PyData.int from hx)
        obtain ⟨j, _, rfl⟩ := List.mem_map.mp (show y ∈ (m :: r).map PyData.int from hy)
        rfl
      · obtain ⟨i, _, rfl⟩ := List.mem_map.mp (show x ∈ (m :: r).map PyData.int from hx)
        exact fun z => by cases z
      · have : PyData.depthAll ((m :: r).map PyData.int) = 0 := depthAll_ints' _
        have : PyData.depthAll (.int m :: r.map PyData.int) = 0 := this
        omega
      · rw [PySem.W.maxD_ints, show r.foldl max m = maxI m r from foldl_maxI r m] at hr
        cases hr
        exact ⟨.int _, H, I.kept hk, ⟨_, rfl⟩, k.val a (.int _)⟩
  · cases e
theorem bi_min1 (hc : X.calm = true) : CallR X (.builtin "min") (rAs X.K g min1D) := by
  intro pins s σ H vs us Q I rv ⟨F, ss, ds, r, a, h0, e, k⟩
  unfold min1D at e
  split at e
  · split at e <;> cases e
    rename_i m r e2
    obtain ⟨v, rfl, h⟩ := one_of h0
    obtain ⟨p, ws, rfl, sp, fp⟩ := h.lst
    obtain rfl := fp.ints e2
    refine cr_min hc pins s σ H _ us Q I rv ⟨p, m :: r, rfl, .of sp, by simp, fun n h1 h2 => ?_⟩
    have e3 : n = minI m r := Int.le_antisymm (h2 _ (minI_mem r m)) (minI_le r m n h1)
    rw [e3]
    exact k.val a (.int _)
  · cases e
theorem bi_sum (hc : X.calm = true) : CallR X (.builtin "sum") (rAs X.K g sumD) := by
  intro pins s σ H vs us Q I rv ⟨F, ss, ds, r, a, h0, e, k⟩
  unfold sumD at e
  split at e
  · obtain ⟨is, e2, e3⟩ := map_of e
    cases e3
    obtain ⟨v, rfl, h⟩ := one_of h0
    obtain ⟨p, ws, rfl, sp, fp⟩ := h.lst
    obtain rfl := fp.ints e2
    exact cr_sum hc pins s σ H _ us Q I rv ⟨p, is, rfl, .of sp, k.val a (.int _)⟩
  · cases e
theorem bi_all (hc : X.calm = true) : CallR X (.builtin "all") (rAs X.K g allD) := by
  intro pins s σ H vs us Q I rv ⟨F, ss, ds, r, a, h0, e, k⟩
  unfold allD at e
  split at e
  · obtain ⟨is, e2, e3⟩ := map_of e
    cases e3
    obtain ⟨v, rfl, h⟩ := one_of h0
    obtain ⟨p, ws, rfl, sp, fp⟩ := h.lst
    obtain rfl := fp.bools e2
    exact cr_all hc pins s σ H _ us Q I rv ⟨p, is, rfl, .of sp, k.val a (.bl _)⟩
  · cases e
theorem bi_any (hc : X.calm = true) : CallR X (.builtin "any") (rAs X.K g anyD) := by
  intro pins s σ H vs us Q I rv ⟨F, ss, ds, r, a, h0, e, k⟩
  unfold anyD at e
  split at e
  · obtain ⟨is, e2, e3⟩ := map_of e
    cases e3
    obtain ⟨v, rfl, h⟩ := one_of h0
    obtain ⟨p, ws, rfl, sp, fp⟩ := h.lst
    obtain rfl := fp.bools e2
    exact cr_any hc pins s σ H _ us Q I rv ⟨p, is, rfl, .of sp, k.val a (.bl _)⟩
  · cases e
theorem bi_list : CallR X (.type "list") (rAs X.K g listD) := by
  intro pins s σ H vs us Q I rv ⟨F, ss, ds, r, a, h0, e, k⟩
  unfold listD at e
  split at e
  · obtain ⟨is, e2, e3⟩ := map_of e
    cases e3
    obtain ⟨v, rfl, h⟩ := one_of h0
    obtain ⟨p, ws, rfl, sp, fp⟩ := h.seq e2
    exact call_list_of pins s σ H _ us Q I rv ⟨p, ws, rfl, sp, fun l hl => k.lst a fp hl⟩
  · cases e
theorem bi_tuple : CallR X (.type "tuple") (rAs X.K g tupleD) := by
  intro pins s σ H vs us Q I rv ⟨F, ss, ds, r, a, h0, e, k⟩
  unfold tupleD at e
  split at e
  · obtain ⟨is, e2, e3⟩ := map_of e
    cases e3
    obtain ⟨v, rfl, h⟩ := one_of h0
    obtain ⟨p, ws, rfl, sp, fp⟩ := h.seq e2
    refine call_tuple_of pins s σ H _ us Q I rv ⟨p, ws, rfl, ?_⟩
    rcases sp with sp | sp
    · exact .inl ⟨sp, fun l hl => k.tup a fp hl⟩
    · exact .inr ⟨sp, k.val a (.tup sp fp)⟩
  · cases e
theorem vals_each {F : Addr → Prop} {K : PySem.W.Frag} {H : Hp} : ∀ {vs : List V} {us : List Value} {ds : List D}, Vals vs us → FDs K F H vs ds → PySem.W.EachIs (fun u d => ∃ x, RelV x u ∧ FD K F H x d) us ds
  | _, _, _, .nil, .nil => .nil
  | _, _, _, .cons r t, .cons f g => .cons ⟨_, r, f⟩ (vals_each t g)
theorem each_vals {F : Addr → Prop} {K : PySem.W.Frag} {H : Hp} : ∀ {us : List Value} {ds : List D}, PySem.W.EachIs (fun u d => ∃ x, RelV x u ∧ FD K F H x d) us ds → ∃ vs, Vals vs us ∧ FDs K F H vs ds
  | _, _, .nil => ⟨[], .nil, .nil⟩
  | _, _, .cons ⟨x, r, f⟩ t => let ⟨vs, a, b⟩ := each_vals t; ⟨x :: vs, .cons r a, .cons f b⟩
theorem vals_reads {F : Addr → Prop} {pins : List (Addr × Obj)} {σ : L2.St} {H : Hp} {s : Shared} (I : Inv X pins σ H s) : ∀ {vs : List V} {us : List Value} {ds : List D}, Vals vs us → FDs X.K F H vs ds → PySem.W.EachIs (fun u d => ∃ as, Reads s.heap u d as) us ds
  | _, _, _, .nil, .nil => .nil
  | _, _, _, .cons r t, .cons f g => .cons (Dp.reads I _ _ _ f.dp r) (vals_reads I t g)
theorem bi_sorted (hu : X.A.units + 100 < cLine) : CallR X (.builtin "sorted") (rAs X.K g sortedD) := by
  intro pins s σ H vs us Q I rv ⟨F, ss, ds, r, a, h0, e, k⟩
  unfold sortedD at e
  split at e
  · obtain ⟨xs, e2, e3⟩ := bind_of e
    split at e3 <;> cases e3
    rename_i hs
    obtain ⟨hal, hk, hd⟩ := sortable_of hs
    obtain ⟨v, rfl, h⟩ := one_of h0
    obtain ⟨p, ws, rfl, sp, fp⟩ := h.seq e2
    cases rv with
    | cons rv t =>
      cases t
      cases rv
      obtain ⟨its, T, o, n, rw_, hT, ho, hc, hdt, hz⟩ : ∃ (its : List Value) (T : String) (o : Obj) (n : Nat), Vals ws its ∧ (T = "list" ∨ T = "tuple") ∧ s.heap.get? p = some o ∧ o.cls = .type T ∧ o.data = .seq its.toArray n ∧ ws.length ≤ sizeLine := by
        rcases sp with sp | sp
        · obtain ⟨its, r, ⟨o, n, h1, h2, h3, h4⟩, hz⟩ := I.list sp
          exact ⟨its, "list", o, n, r, .inl rfl, h1, h2, h4, hz⟩
        · obtain ⟨its, r, ⟨o, h1, h2, n, h4⟩, hz⟩ := I.tuple sp
          exact ⟨its, "tuple", o, n, r, .inr rfl, h1, h2, h4, hz⟩
      refine sorted_seq (R := fun u d => ∃ x, RelV x u ∧ FD X.K F H x d) hT ho hc hdt (by rw [← rw_.length]; exact hz) (vals_each rw_ fp) (vals_reads I rw_ fp) hal hk (fun d hm => by have := hd d hm; omega) fun h1 h' out n k1 k2 he hl er => ?_
      rw [sortD_eq hal] at er
      obtain ⟨zs, r1, f1⟩ := each_vals er
      have I1 : Inv X pins σ H { s with heap := h1 } := I.kept (t' := s.toks) k1
      have hn : H h1.objs.size = none := I1.hok.fresh (Nat.le_refl _)
      refine ⟨.ref h1.objs.size, _, I1.laid (t' := s.toks) (o := .lst zs) k2 (Nat.le_refl _) ⟨?_, out, n, r1, he⟩, rfl, k.lst a f1 hn⟩
      rw [r1.length, hl, ← fp.length]
      exact hz
  · cases e
mutual
theorem FD.noDict {K : PySem.W.Frag} {F : Addr → Prop} {H : Hp} : ∀ {v : V} {d : D}, FD K F H v d → d.hasDict = false
  | _, _, .non => rfl
  | _, _, .bl _ => rfl
  | _, _, .int _ => rfl
  | _, _, .str _ => rfl
  | _, _, .lst _ _ r => by simp only [PyData.hasDict]; exact FDs.noDict r
  | _, _, .tup _ r => by simp only [PyData.hasDict]; exact FDs.noDict r
theorem FDs.noDict {K : PySem.W.Frag} {F : Addr → Prop} {H : Hp} : ∀ {vs : List V} {ds : List D}, FDs K F H vs ds → PyData.hasDictAll ds = false
  | _, _, .nil => rfl
  | _, _, .cons r t => by simp only [PyData.hasDictAll, Bool.or_eq_false_iff]; exact ⟨FD.noDict r, FDs.noDict t⟩
end
theorem RD.noDict {K : PySem.W.Frag} {F : Addr → Prop} {H : Hp} {v : V} {d : D} (h : RD K F H v d) : d.hasDict = false := by
  rcases h with h | ⟨a, vs, xs, rfl, rfl, h1, h2⟩
  · exact h.noDict
  · simp only [PyData.hasDict]; exact h2.noDict
theorem bi_repr (hg : X.A.guards = some []) (hu : X.A.units + 100 < cLine) : CallR X (.builtin "repr") (rAs X.K g reprD) := by
  intro pins s σ H vs us Q I rv ⟨F, ss, ds, r, a, h0, e, k⟩
  unfold reprD at e
  split at e
  · split at e <;> cases e
    rename_i x c
    obtain ⟨c1, c2, c3⟩ := c
    obtain ⟨v, rfl, h⟩ := one_of h0
    cases rv with
    | cons rv t =>
      cases t
      rename_i u
      have fin : ∀ h' tk t, (∀ b o, s.heap.get? b = some o → h'.get? b = some o) → EP X pins σ Q (.str x.shown t) { s with heap := h', toks := tk } := fun h' tk t hk =>
        ⟨.str x.shown, H, I.kept hk, ⟨_, rfl⟩, k.val a (.str _)⟩
      cases x with
      | none => obtain rfl := h.none; cases rv; exact PySem.P.repr_of_none (fin _ _ _ fun _ _ e => e)
      | bool b => obtain rfl := h.bool; cases rv; exact PySem.P.repr_of_bool (fin _ _ _ fun _ _ e => e)
      | int i => obtain rfl := h.int; obtain ⟨t, rfl⟩ := rv; exact PySem.P.repr_of_int (by simpa [PyData.showable] using c1) (fin _ _ _ fun _ _ e => e)
      | str z => obtain rfl := h.str; obtain ⟨t, rfl⟩ := rv; exact PySem.P.repr_of_str (fin _ _ _ fun _ _ e => e) (by simpa [PyData.shown, SL_eq] using c2)
      | list xs =>
        obtain ⟨as, rr⟩ := Dp.reads I _ _ u h.dp rv
        obtain ⟨p, ws, rfl, sp, fp⟩ := h.lst
        cases rv
        exact repr_of_reads' rr c1 (fun z => by rw [h.noDict] at z; cases z) hg (by omega) (fun _ _ e => e) (fun h' u tk hk => fin _ _ _ hk) (by rw [SL_eq]; exact c2)
      | tuple xs =>
        obtain ⟨as, rr⟩ := Dp.reads I _ _ u h.dp rv
        obtain ⟨p, ws, rfl, sp, fp⟩ := h.tup
        cases rv
        exact repr_of_reads' rr c1 (fun z => by rw [h.noDict] at z; cases z) hg (by omega) (fun _ _ e => e) (fun h' u tk hk => fin _ _ _ hk) (by rw [SL_eq]; exact c2)
      | dict kvs => have := h.noDict; simp [PyData.hasDict] at this
  · cases e
theorem kit_tag (K : PySem.W.Frag) (a U : String) (ha : a ∈ ["NoneType", "int", "bool", "tuple", "str", "list"]) (hU : U ∈ ["int", "bool", "tuple", "str", "list"]) : PySem.W.kitOne K (.type a) (.type U) = some (isTs a U) := by
  have h : (["NoneType", "int", "bool", "tuple", "str", "list"].all fun a => ["int", "bool", "tuple", "str", "list"].all fun U => kitB a U == some (isTs a U)) = true := by decide +kernel
  exact kit_ty (eq_of_beq (List.all_eq_true.mp (List.all_eq_true.mp h a ha) U hU))
theorem RD.tyX {K : PySem.W.Frag} {F : Addr → Prop} {H : Hp} {v : V} {d : D} (h : RD K F H v d) : TyX K H v (.type (tag d)) ∧ tag d ∈ ["NoneType", "int", "bool", "tuple", "str", "list"] := by
  cases d with
  | none => obtain rfl := h.none; exact ⟨.base .non, by simp [tag]⟩
  | bool b => obtain rfl := h.bool; exact ⟨.base (.bl _), by simp [tag]⟩
  | int i => obtain rfl := h.int; exact ⟨.base (.int _), by simp [tag]⟩
  | str z => obtain rfl := h.str; exact ⟨.base (.str _), by simp [tag]⟩
  | list xs => obtain ⟨p, ws, rfl, sp, fp⟩ := h.lst; exact ⟨.base (.lst sp), by simp [tag]⟩
  | tuple xs =>
    obtain ⟨p, ws, rfl, sp, fp⟩ := h.tup
    refine ⟨?_, by simp [tag]⟩
    rcases sp with (sp | ⟨o, sp⟩) | ⟨o, _, _, q, c, _⟩
    · exact .base (.tup sp)
    · exact .fTuple sp
    · exact .kTuple q c
  | dict kvs => have := h.noDict; simp [PyData.hasDict] at this
/-- isinstance(x, U) -/
def rIs (K : PySem.W.Frag) (g : G) (U : String) : List V → Hp → VK → Prop := fun vs H Q => ∃ F ss d x, vs = [x, .ty U] ∧ At K g F ss H ∧ RD K F H x d ∧ Kt K g F ss H (bl (isT U d)) Q
theorem bi_isT {U : String} (hU : U ∈ ["int", "bool", "tuple", "str", "list"]) : CallR X (.builtin "isinstance") (rIs X.K g U) := by
  intro pins s σ H vs us Q I rv ⟨F, ss, d, x, ev, a, h, k⟩
  subst ev
  obtain ⟨h1, h2⟩ := h.tyX
  exact call_isi pins s σ H _ us Q I rv ⟨x, .ty U, _, _, _, rfl, .ty U, h1, kit_tag X.K _ U h2 hU, k.val a (.bl _)⟩
end
end Pm
namespace Pm
open PySem PySem.Spec PyProof.Rows L2
/-! ### xs.index(x), xs.count(x) of a list -/
theorem findIx_of {p : D → Bool} : ∀ {xs : List D} {n i : Nat}, findIx p xs n = some i → n ≤ i ∧ (∃ z, xs[i - n]? = some z ∧ p z = true) ∧ ∀ m z, m < i - n → xs[m]? = some z → p z = false
  | [], n, i, e => by simp [findIx] at e
  | x :: r, n, i, e => by
    unfold findIx at e
    split at e
    · rename_i hp
      cases e
      refine ⟨Nat.le_refl _, ⟨x, by simp, hp⟩, fun m z hm => by omega⟩
    · rename_i hp
      obtain ⟨h1, ⟨z, h2, h3⟩, h4⟩ := findIx_of e
      refine ⟨by omega, ⟨z, ?_, h3⟩, fun m z' hm hz => ?_⟩
      · have : i - n = (i - (n + 1)) + 1 := by omega
        rw [this, List.getElem?_cons_succ]; exact h2
      · cases m with
        | zero => simp at hz; subst hz; simpa using hp
        | succ m => exact h4 m z' (by omega) (by simpa using hz)
def rMt (K : PySem.W.Frag) (g : G) (m : Me) : V → List V → Hp → VK → Prop := fun x xs H Q => ∃ F ss ds es r, At K g F ss H ∧ RD K F H x (.list ds) ∧ Paired (RD K F H) xs es ∧ meD m (.list ds) es = some r ∧ Kt K g F ss H r Q
theorem meIx_of {ds es : List D} {r : R} (e : meD .index (.list ds) es = some r) : ∃ y i, es = [y] ∧ SeqAt.shaped (.list ds) = true ∧ SeqAt.shaped y = true ∧ findIx (fun z => PyData.eqv z y) ds 0 = some i ∧ r = .v (.int i) := by
  match es, e with
  | [], e => cases e
  | [y], e =>
    have e : (if SeqAt.shaped (.list ds) = true ∧ SeqAt.shaped y = true then (findIx (fun z => PyData.eqv z y) ds 0).map (fun (i : Nat) => R.v (.int i)) else none) = some r := e
    split at e
    · rename_i h
      obtain ⟨i, e1, e2⟩ := Option.map_eq_some_iff.mp e
      exact ⟨y, i, rfl, h.1, h.2, e1, e2.symm⟩
    · cases e
  | _ :: _ :: _, e => cases e
theorem meCt_of {ds es : List D} {r : R} (e : meD .count (.list ds) es = some r) : ∃ y, es = [y] ∧ SeqAt.shaped (.list ds) = true ∧ SeqAt.shaped y = true ∧ r = .v (.int (ds.countP fun z => PyData.eqv z y : Nat)) := by
  match es, e with
  | [], e => cases e
  | [y], e =>
    have e : (if SeqAt.shaped (.list ds) = true ∧ SeqAt.shaped y = true then some (R.v (.int (ds.countP fun z => PyData.eqv z y : Nat))) else none) = some r := e
    split at e
    · rename_i h
      cases e
      exact ⟨y, rfl, h.1, h.2, rfl⟩
    · cases e
  | _ :: _ :: _, e => cases e
theorem meD_list {m : Me} {d : D} {es : List D} {r : R} (e : meD m d es = some r) : (m = .index ∨ m = .count) ∧ ∃ ds, d = .list ds := by
  unfold meD at e
  split at e
  · exact ⟨.inl rfl, _, rfl⟩
  · exact ⟨.inr rfl, _, rfl⟩
  · cases e
section
variable {X : Cx} {g : G}
theorem mt_ix (hu : X.A.units + 65 < cLine) : MtR X "list.index" (rMt X.K g .index) := by
  intro pins s σ H x xs v us Q I rx rxs ⟨F, ss, ds, es, r, a, hx, hxs, e, k⟩
  obtain ⟨y, i, rfl, s1, s2, hi, rfl⟩ := meIx_of e
  obtain ⟨z, rfl, hz⟩ := one_of hxs
  obtain ⟨_, ⟨w, h2, h3⟩, h4⟩ := findIx_of hi
  obtain ⟨p, vs, rfl, sp, fp⟩ := hx.lst
  rw [Nat.sub_zero] at h2 h4
  exact mt_indexD hu pins s σ H _ _ v us Q I rx rxs ⟨p, z, y, ds, i, w, rfl, rfl, .lst (.of sp) fp.dp, hz.dp, s1, s2, h2, h3, fun m z' hm q => h4 m z' hm q, k.val a (.int _)⟩
theorem mt_ct (hu : X.A.units + 65 < cLine) : MtR X "list.count" (rMt X.K g .count) := by
  intro pins s σ H x xs v us Q I rx rxs ⟨F, ss, ds, es, r, a, hx, hxs, e, k⟩
  obtain ⟨y, rfl, s1, s2, rfl⟩ := meCt_of e
  obtain ⟨z, rfl, hz⟩ := one_of hxs
  obtain ⟨p, vs, rfl, sp, fp⟩ := hx.lst
  cases rx
  cases rxs with
  | cons ry rt =>
    rename_i uy ut
    cases rt
    obtain ⟨bs, r1⟩ := Dp.reads I y z uy hz.dp ry
    obtain ⟨its, rv, ⟨o, n, ho, hc, hdn, hdt⟩, hlen⟩ := I.list (.of sp)
    obtain ⟨cls, dd, data, sls⟩ := o
    simp only at hc hdt
    subst hc hdt
    obtain ⟨as, h4⟩ := Dp.readsAll I ds _ its fp.dp rv
    have hxs : PyData.canLayAll0 ds = true := SeqAt.canLay_of_shaped s1
    have hroom : X.A.units + 1 + min (PyData.depthAll ds) y.depth < cLine := room_in_shaped s2 hu
    have hmap : its.map (SeqAt.readOf s.heap) = ds := SeqAt.readsAll_map ds its as hxs h4
    refine call_meets PySem.F.slot_list_count ⟨_, ho, rfl⟩ PySem.F.entry_list_count (PySem.F.args_list_count_2 _ _)
      (SeqAt.list_countAt p its.toArray n dd sls uy (fun u => PyData.eqv (SeqAt.readOf s.heap u) y)) ⟨ho, SeqAt.items_eqAt (vs := its.toArray) (show ReadsAll s.heap its.toArray.toList ds as from h4) r1 hxs (SeqAt.canLay_of_shaped s2) hroom, ?_⟩
    have hc : List.countP (fun u => PyData.eqv (SeqAt.readOf s.heap u) y) its.toArray.toList = List.countP (fun z => PyData.eqv z y) ds := by
      rw [← hmap, List.countP_map]
      rfl
    rw [hc]
    exact ⟨.int _, H, I.tok _, ⟨_, rfl⟩, k.val a (.int _)⟩
end
end Pm
namespace Pm
open PySem PySem.Spec PyProof.Rows L2
/-- a list or a tuple that is walked, as it stands -/
structure Cell where
  a : Addr
  isL : Bool
  vs : List V
  es : List D
def CellOk (K : PySem.W.Frag) (F : Addr → Prop) (H : Hp) (c : Cell) : Prop := (if c.isL = true then H c.a = some (.lst c.vs) else SqT K H c.a c.vs) ∧ FDs K F H c.vs c.es
def Pcs (K : PySem.W.Frag) (cs : List Cell) (F : Addr → Prop) (H : Hp) : Prop := ∀ c ∈ cs, CellOk K F H c
/-- a walk over the values ds -/
structure Wk (K : PySem.W.Frag) (g : G) (J : It) (ds : List D) (cs : List Cell) : Prop where
  go : ∀ (i : Nat) F H, i < ds.length → Pcs K cs F H → J.go i H
  stop : ∀ F H, Pcs K cs F H → J.stop ds.length H
  yld : ∀ (i : Nat) F H ss x H', i < ds.length → At K g F ss H → Pcs K cs F H → J.yld i H x H' → Gr g F F H H' ∧ SrcOk g.A g.C ss H' ∧ ∃ d, ds[i]? = some d ∧ FD K F H' x d
/-- where a walked list comes from -/
def Org (g : G) (F : Addr → Prop) (H0 : Hp) (nb : Bool) (c : Cell) : Prop := c.isL = true → F c.a ∨ (H0 c.a = none ∧ ¬ F c.a) ∨ (nb = false ∧ c.a ≠ g.C ∧ g.He c.a = none)
section
variable (K : PySem.W.Frag) (g : G)
def LI (nb : Bool) (m : SS → O (List D)) (sl : List SV) : TI := fun σ H R => ∃ F ss r ss', m ss = some (r, ss') ∧ Rp K g F ss sl σ H ∧ ∀ J H' F' cs, Gr g F F' H H' → Rp K g F' ss' sl σ H' → Wk K g J r cs → Pcs K cs F' H' → (∀ c ∈ cs, Org g F' H nb c) → R J H'
end
section
variable {K : PySem.W.Frag} {g : G} {F F' : Addr → Prop} {H H' H0 : Hp} {ss : SS} {sl : List SV} {σ : L2.St}
theorem CellOk.seq {c : Cell} (h : CellOk K F H c) : SqL K H c.a c.vs ∨ SqT K H c.a c.vs := by
  have h1 := h.1
  split at h1
  · exact .inl (.of h1)
  · exact .inr h1
theorem wk_list {a : Addr} {vs : List V} {es : List D} (hl : vs.length = es.length) : Wk K g (Itl K a) es [⟨a, true, vs, es⟩] := by
  refine ⟨fun i F H hi p => ?_, fun F H p => ?_, fun i F H ss x H' hi at_ p y => ?_⟩
  · have h := p _ List.mem_cons_self
    exact ⟨vs, vs[i]'(by omega), .of (show H a = some (.lst vs) from h.1), by simp⟩
  · have h := p _ List.mem_cons_self
    exact ⟨vs, .of (show H a = some (.lst vs) from h.1), by omega⟩
  · have h := p _ List.mem_cons_self
    obtain ⟨rfl, y⟩ := y
    obtain ⟨d, e1, e2⟩ := h.2.get' (y vs (.of (show H' a = some (.lst vs) from h.1)))
    exact ⟨at_.gr, at_.src, d, e1, e2⟩
theorem wk_tup {a : Addr} {vs : List V} {es : List D} (hl : vs.length = es.length) : Wk K g (Itt K a) es [⟨a, false, vs, es⟩] := by
  refine ⟨fun i F H hi p => ?_, fun F H p => ?_, fun i F H ss x H' hi at_ p y => ?_⟩
  · have h := p _ List.mem_cons_self
    exact ⟨vs, vs[i]'(by omega), h.1, by simp⟩
  · have h := p _ List.mem_cons_self
    exact ⟨vs, h.1, by omega⟩
  · have h := p _ List.mem_cons_self
    obtain ⟨rfl, y⟩ := y
    obtain ⟨d, e1, e2⟩ := h.2.get' (y vs h.1)
    exact ⟨at_.gr, at_.src, d, e1, e2⟩
theorem rangeD_len (a b : Int) : (rangeD a b).length = (b - a).toNat := by unfold rangeD; rw [List.length_map, List.length_range]
theorem wk_range {lo hi : Int} : Wk K g (Itr lo (hi - lo).toNat) (rangeD lo hi) [] := by
  refine ⟨fun i F H h p => ?_, fun F H p => ?_, fun i F H ss x H' h at_ p y => ?_⟩
  · rw [rangeD_len] at h; exact h
  · rw [rangeD_len]; exact Nat.le_refl _
  · obtain ⟨rfl, rfl⟩ := y
    rw [rangeD_len] at h
    exact ⟨at_.gr, at_.src, .int (lo + i), by unfold rangeD; rw [List.getElem?_map, List.getElem?_range h]; rfl, .int _⟩
theorem enumD_len (xs : List D) : (enumD xs).length = xs.length := by unfold enumD; rw [List.length_zipWith, List.length_range, Nat.min_self]
theorem enumD_get {xs : List D} {i : Nat} {d : D} (h : xs[i]? = some d) : (enumD xs)[i]? = some (.tuple [.int i, d]) := by
  unfold enumD
  have hi : i < xs.length := (List.getElem?_eq_some_iff.mp h).1
  rw [List.getElem?_zipWith, List.getElem?_range hi, h]
theorem wk_enum {a : Addr} {vs : List V} {es : List D} (hl : vs.length = es.length) : Wk K g (Ite K a) (enumD es) [⟨a, true, vs, es⟩] := by
  refine ⟨fun i F H hi p => ?_, fun F H p => ?_, fun i F H ss x H' hi at_ p y => ?_⟩
  · have h := p _ List.mem_cons_self
    rw [enumD_len] at hi
    exact ⟨vs, vs[i]'(by omega), .of (show H a = some (.lst vs) from h.1), by simp⟩
  · have h := p _ List.mem_cons_self
    exact ⟨vs, .of (show H a = some (.lst vs) from h.1), by rw [enumD_len]; omega⟩
  · have h := p _ List.mem_cons_self
    obtain ⟨T, v, rfl, hT, rfl, y⟩ := y
    obtain ⟨d, e1, e2⟩ := h.2.get' (y vs (.of (show H a = some (.lst vs) from h.1)))
    exact ⟨at_.upd hT, at_.src.upd (at_.ne hT).1 (at_.ne hT).2, _, enumD_get e1, .tup (.of upd_same) (.cons (.int _) (.one (e2.keep (at_.ke hT))))⟩
theorem wk_et {a : Addr} {vs : List V} {es : List D} (hl : vs.length = es.length) : Wk K g (Iet K a) (enumD es) [⟨a, false, vs, es⟩] := by
  refine ⟨fun i F H hi p => ?_, fun F H p => ?_, fun i F H ss x H' hi at_ p y => ?_⟩
  · have h := p _ List.mem_cons_self
    rw [enumD_len] at hi
    exact ⟨vs, vs[i]'(by omega), h.1, by simp⟩
  · have h := p _ List.mem_cons_self
    exact ⟨vs, h.1, by rw [enumD_len]; omega⟩
  · have h := p _ List.mem_cons_self
    obtain ⟨T, v, rfl, hT, rfl, y⟩ := y
    obtain ⟨d, e1, e2⟩ := h.2.get' (y vs h.1)
    exact ⟨at_.upd hT, at_.src.upd (at_.ne hT).1 (at_.ne hT).2, _, enumD_get e1, .tup (.of upd_same) (.cons (.int _) (.one (e2.keep (at_.ke hT))))⟩
/-- the value walked -/
theorem RR.cell {r : R} {x : V} {d : D} {xs : List D} (h : RR K g F H0 H r x) (e : Pm.rd r = some d) (e2 : seqOf d = some xs) (nb : Bool) (hn : nb = true → isBo r = false) :
    ∃ c : Cell, x = .ref c.a ∧ c.es = xs ∧ c.vs.length = xs.length ∧ CellOk K F H c ∧ Org g F H0 nb c ∧ d = (if c.isL = true then .list xs else .tuple xs) := by
  cases r with
  | v d' =>
    cases e
    have h : FD K F H x d := h
    cases h with
    | lst f e1 r => cases e2; exact ⟨⟨_, true, _, _⟩, rfl, rfl, r.length, ⟨e1, r⟩, fun _ => .inl f, rfl⟩
    | tup s r => cases e2; exact ⟨⟨_, false, _, _⟩, rfl, rfl, r.length, ⟨s, r⟩, fun z => (by cases z), rfl⟩
    | _ => cases e2
  | fr ys =>
    cases e; cases e2
    obtain ⟨a, vs, rfl, h1, h2, h3, h4⟩ := h
    exact ⟨⟨a, true, vs, _⟩, rfl, rfl, h2.length, ⟨h1, h2⟩, fun _ => .inr (.inl ⟨h4, h3⟩), rfl⟩
  | bo ys =>
    cases e; cases e2
    obtain ⟨a, vs, rfl, h1, h2, h3, h4⟩ := h
    refine ⟨⟨a, true, vs, _⟩, rfl, rfl, h2.length, ⟨h1, h2⟩, fun _ => .inr (.inr ⟨?_, h3, h4.1⟩), rfl⟩
    cases nb with
    | false => rfl
    | true => have := hn rfl; cases this
  | _ => cases e
end
section
variable {X : Cx} {g : G} {tg l : Expr} {sl : List SV} {ml : SS → O R}
/-- a sequence, whatever it is -/
theorem pi_seq (hl : PE X l (LE X.K g ml sl)) (nb : Bool) (hn : nb = true → ∀ ss r s, ml ss = some (r, s) → isBo r = false) : PI X tg l (LI X.K g nb (fun ss => toI (ml ss)) sl) := by
  refine ⟨fun pins s σ H R I h => ?_⟩
  obtain ⟨F, ss, ds, ss', e, rp, k⟩ := h
  obtain ⟨r, e1, e2⟩ := O.f_of e
  refine thn (hl.run pins s σ H (fun x H1 => ∃ F1 c, Gr g F F1 H H1 ∧ Rp X.K g F1 ss' sl σ H1 ∧ x = .ref c.a ∧ c.es = ds ∧ c.vs.length = ds.length ∧ CellOk X.K F1 H1 c ∧ Org g F1 H nb c) I ⟨F, ss, r, ss', e1, rp, fun x H1 F1 g1 p1 h1 => ?_⟩) fun v s1 ⟨x, H1, I1, r1, F1, c, g1, p1, ex, ec, hlen, hc, ho⟩ => ?_
  · have e3 : (rd r).bind seqOf = some ds := by
      cases r with
      | it xs => exact h1.elim
      | _ => exact e2
    obtain ⟨d, e4, e5⟩ := bind_of e3
    obtain ⟨c, h2, h3, h4, h5, h6, _⟩ := h1.cell e4 e5 nb fun z => hn z _ _ _ e1
    exact ⟨F1, c, g1, p1, h2, h3, h4, h5, h6⟩
  subst ex
  cases r1
  obtain ⟨a, isL, vs, es⟩ := c
  obtain rfl : es = ds := ec
  cases isL with
  | true =>
    have hs : SqL X.K H1 a vs := .of hc.1
    obtain ⟨its, rv, p, hz⟩ := I1.list hs
    refine wpAny_pyIter_list p.isList ?_
    refine ⟨s1.heap.objs.size, [s1.heap.objs.size], _, _, H1, rfl, I1.kept (t' := s1.toks) fun b o e => Heap.get?_push_of_some _ e, turn_list a _, ⟨_, Heap.get?_push_size _ rfl, rfl, rfl⟩, fun b hb => ?_, ?_⟩
    · obtain rfl : b = s1.heap.objs.size := by simpa using hb
      exact I1.fpOk (Nat.le_refl _) (I1.hok.fresh (Nat.le_refl _))
    · exact k _ H1 F1 _ g1 p1 (wk_list hlen) (fun c hm => by obtain rfl := List.mem_singleton.mp hm; exact hc) (fun c hm => by obtain rfl := List.mem_singleton.mp hm; exact ho)
  | false =>
    have hs : SqT X.K H1 a vs := hc.1
    obtain ⟨its, rv, p, hz⟩ := I1.tuple hs
    refine wpAny_pyIter_tuple (show s1.heap.IsTuple a its.toArray from p) ?_
    refine ⟨s1.heap.objs.size, [s1.heap.objs.size], _, _, H1, rfl, I1.kept (t' := s1.toks) fun b o e => Heap.get?_push_of_some _ e, turn_tuple a _, ⟨_, Heap.get?_push_size _ rfl, rfl, rfl⟩, fun b hb => ?_, ?_⟩
    · obtain rfl : b = s1.heap.objs.size := by simpa using hb
      exact I1.fpOk (Nat.le_refl _) (I1.hok.fresh (Nat.le_refl _))
    · exact k _ H1 F1 _ g1 p1 (wk_tup hlen) (fun c hm => by obtain rfl := List.mem_singleton.mp hm; exact hc) (fun c hm => by obtain rfl := List.mem_singleton.mp hm; exact ho)
theorem PI.imp {iter : Expr} {t t' : TI} (h : PI X tg iter t) (i : ∀ σ H R, t' σ H R → t σ H R) : PI X tg iter t' := ⟨fun pins s σ H R I q => h.run pins s σ H R I (i σ H R q)⟩
theorem pi_rg1 {a : Expr} {p pos : Pos} {ma : SS → O R} (nb : Bool) (hg : Gl X "range") (hm : X.mg "range" = none) (ha : PE X a (LE X.K g ma sl)) (hs : ∀ v p, a ≠ .Starred v p) :
    PI X tg (.Call (.Name "range" p) [a] [] pos) (LI X.K g nb (fun ss => toI ((toD (ma ss)).f rg1D)) sl) := by
  have hs1 : starEach [a] X.env = (false, eval a X.env) :: starEach [] X.env := by
    cases a <;> first | rfl | exact absurd rfl (hs _ _)
  refine PI.imp (pi_range1 hg hm (pa_cons ha pa_nil hs1) (by rw [hs1]; rfl)) fun σ H R h => ?_
  obtain ⟨F, ss, ds, ss', e, rp, k⟩ := h
  obtain ⟨r, e1, e2⟩ := O.f_of e
  obtain ⟨d, e3, e4⟩ := O.f_of e1
  obtain ⟨r0, e5, e6⟩ := O.f_of e3
  refine ⟨F, ss, r0, _, e5, rp, fun x H1 F1 g1 p1 h1 => ?_⟩
  unfold rg1D at e4
  split at e4
  · split at e4 <;> cases e4
    rename_i i hi
    obtain rfl := (h1.rd e6).int
    cases e2
    refine ⟨i, rfl, by omega, by omega, ?_⟩
    have := k (Itr 0 (i - 0).toNat) H1 F1 [] g1 p1 wk_range (fun c hm => nomatch hm) (fun c hm => nomatch hm)
    simpa using this
  · cases e4
theorem pi_rg2 {a b : Expr} {p pos : Pos} {ma mb : SS → O R} (nb : Bool) (hg : Gl X "range") (hm : X.mg "range" = none) (ha : PE X a (LE X.K g ma sl)) (hb : PE X b (LE X.K g mb sl)) (hs : ∀ v p, a ≠ .Starred v p) (hsb : ∀ v p, b ≠ .Starred v p) :
    PI X tg (.Call (.Name "range" p) [a, b] [] pos) (LI X.K g nb (fun ss => toI ((toD (ma ss)).bind fun p => (toD (mb p.2)).bind fun q => (rg2D p.1 q.1).map fun r => (r, q.2))) sl) := by
  have hs2 : starEach [b] X.env = (false, eval b X.env) :: starEach [] X.env := by
    cases b <;> first | rfl | exact absurd rfl (hsb _ _)
  have hs1 : starEach [a, b] X.env = (false, eval a X.env) :: starEach [b] X.env := by
    cases a <;> first | rfl | exact absurd rfl (hs _ _)
  refine PI.imp (pi_range2 hg hm (pa_cons ha (pa_cons hb pa_nil hs2) hs1) (by rw [hs1, hs2]; rfl) (by rw [hs2]; rfl)) fun σ H R h => ?_
  obtain ⟨F, ss, ds, ss', e, rp, k⟩ := h
  obtain ⟨r, e1, e2⟩ := O.f_of e
  obtain ⟨⟨da, s1⟩, e3, e1⟩ := bind_of e1
  obtain ⟨⟨db, s2⟩, e4, e1⟩ := bind_of e1
  obtain ⟨r', e5, e6⟩ := map_of e1
  cases e6
  obtain ⟨ra, e7, e8⟩ := O.f_of e3
  obtain ⟨rb, e9, e10⟩ := O.f_of e4
  refine ⟨F, ss, ra, _, e7, rp, fun x H1 F1 g1 p1 h1 => ⟨F1, _, rb, _, e9, p1, fun y H2 F2 g2 p2 h2 => ?_⟩⟩
  have e5 : rg2D da db = some r := e5
  unfold rg2D at e5
  split at e5
  · split at e5 <;> cases e5
    obtain rfl := (h1.rd e8).int
    obtain rfl := (h2.rd e10).int
    cases e2
    exact ⟨_, _, rfl, ⟨by omega, by omega, by omega, by omega⟩, k _ H2 F2 [] (g1.trans g2) p2 wk_range (fun c hm => nomatch hm) (fun c hm => nomatch hm)⟩
  · cases e5
theorem PI.or {iter : Expr} {t1 t2 : TI} (h1 : PI X tg iter t1) (h2 : PI X tg iter t2) : PI X tg iter (fun σ H R => t1 σ H R ∨ t2 σ H R) := ⟨fun pins s σ H R I q => q.elim (h1.run pins s σ H R I) (h2.run pins s σ H R I)⟩
/-- enumerate of a list, of a tuple -/
theorem pi_en {a : Expr} {p pos tpos : Pos} {elts : List Expr} {kk : Nat} {ma : SS → O R} (nb : Bool) (hg : Gl X "enumerate") (hm : X.mg "enumerate" = none) (ha : PE X a (LE X.K g ma sl)) (hs : ∀ v p, a ≠ .Starred v p)
    (hn : nb = true → ∀ ss r s, ma ss = some (r, s) → isBo r = false) :
    PI X (.Tuple elts kk tpos) (.Call (.Name "enumerate" p) [a] [] pos) (LI X.K g nb (fun ss => toI ((toD (ma ss)).f enD)) sl) := by
  have hs1 : starEach [a] X.env = (false, eval a X.env) :: starEach [] X.env := by
    cases a <;> first | rfl | exact absurd rfl (hs _ _)
  refine PI.imp (PI.or (pi_enum hg hm (pa_cons ha pa_nil hs1) (by rw [hs1]; rfl)) (pi_et hg hm (pa_cons ha pa_nil hs1) (by rw [hs1]; rfl))) fun σ H R h => ?_
  obtain ⟨F, ss, ds, ss', e, rp, k⟩ := h
  obtain ⟨r, e1, e2⟩ := O.f_of e
  obtain ⟨d, e3, e4⟩ := O.f_of e1
  obtain ⟨r0, e5, e6⟩ := O.f_of e3
  cases d with
  | list xs =>
    cases e4
    cases e2
    refine .inl ⟨F, ss, r0, _, e5, rp, fun x H1 F1 g1 p1 h1 => ?_⟩
    obtain ⟨⟨c, isL, vs, es⟩, rfl, h3, h4, h5, h6, h7⟩ := h1.cell e6 rfl nb fun z => hn z _ _ _ e5
    obtain rfl : es = xs := h3
    cases isL with
    | true => exact ⟨c, vs, rfl, .of h5.1, k _ H1 F1 _ g1 p1 (wk_enum h4) (fun c hm => by obtain rfl := List.mem_singleton.mp hm; exact h5) (fun c hm => by obtain rfl := List.mem_singleton.mp hm; exact h6)⟩
    | false => cases h7
  | tuple xs =>
    cases e4
    cases e2
    refine .inr ⟨F, ss, r0, _, e5, rp, fun x H1 F1 g1 p1 h1 => ?_⟩
    obtain ⟨⟨c, isL, vs, es⟩, rfl, h3, h4, h5, h6, h7⟩ := h1.cell e6 rfl nb fun z => hn z _ _ _ e5
    obtain rfl : es = xs := h3
    cases isL with
    | false => exact ⟨c, vs, rfl, h5.1, k _ H1 F1 _ g1 p1 (wk_et h4) (fun c hm => by obtain rfl := List.mem_singleton.mp hm; exact h5) (fun c hm => by obtain rfl := List.mem_singleton.mp hm; exact h6)⟩
    | true => cases h7
  | _ => cases e4
end
end Pm
namespace Pm
open PySem PySem.Spec PyProof.Rows L2
section
variable {K : PySem.W.Frag} {g : G} {F F' : Addr → Prop} {H H' H0 : Hp} {ss : SS} {sl : List SV} {σ : L2.St}
/-- a slot is given a value -/
theorem Rp.setV {i : Nat} {v : V} {d : D} (r : Rp K g F ss sl σ H) (hv : FD K F H v d) : Rp K g F ss (sl.set i (.v d)) (σ.set i (some v)) H := by
  refine ⟨by rw [List.length_set, List.length_set]; exact r.len, fun j s e => ?_, fun j l s t a hne ej el os ot eσ => ?_, r.ent, r.frz, r.dom, r.fe, r.fC, r.eS, r.src⟩
  · by_cases hj : i = j
    · subst hj
      by_cases hi : i < sl.length
      · rw [List.getElem?_set_self hi] at e
        cases e
        exact ⟨some v, List.getElem?_set_self (by rw [← r.len]; exact hi), v, rfl, hv⟩
      · rw [List.getElem?_eq_none (by rw [List.length_set]; omega)] at e; cases e
    · rw [List.getElem?_set_ne hj] at e ⊢
      exact r.slot j s e
  · have nj : i ≠ j := fun z => by
      subst z
      by_cases hi : i < sl.length
      · rw [List.getElem?_set_self hi] at ej; cases ej; cases os
      · rw [List.getElem?_eq_none (by rw [List.length_set]; omega)] at ej; cases ej
    have nl : i ≠ l := fun z => by
      subst z
      by_cases hi : i < sl.length
      · rw [List.getElem?_set_self hi] at el; cases el; cases ot
      · rw [List.getElem?_eq_none (by rw [List.length_set]; omega)] at el; cases el
    rw [List.getElem?_set_ne nj] at ej eσ
    rw [List.getElem?_set_ne nl] at el ⊢
    exact r.apart j l s t a hne ej el os ot eσ
/-- a slot is forgotten -/
theorem Rp.un {i : Nat} {x : Option V} (r : Rp K g F ss sl σ H) : Rp K g F ss (sl.set i .un) (σ.set i x) H := by
  refine ⟨by rw [List.length_set, List.length_set]; exact r.len, fun j s e => ?_, fun j l s t a hne ej el os ot eσ => ?_, r.ent, r.frz, r.dom, r.fe, r.fC, r.eS, r.src⟩
  · by_cases hj : i = j
    · subst hj
      by_cases hi : i < sl.length
      · rw [List.getElem?_set_self hi] at e
        cases e
        exact ⟨x, List.getElem?_set_self (by rw [← r.len]; exact hi), trivial⟩
      · rw [List.getElem?_eq_none (by rw [List.length_set]; omega)] at e; cases e
    · rw [List.getElem?_set_ne hj] at e ⊢
      exact r.slot j s e
  · have nj : i ≠ j := fun z => by
      subst z
      by_cases hi : i < sl.length
      · rw [List.getElem?_set_self hi] at ej; cases ej; cases os
      · rw [List.getElem?_eq_none (by rw [List.length_set]; omega)] at ej; cases ej
    have nl : i ≠ l := fun z => by
      subst z
      by_cases hi : i < sl.length
      · rw [List.getElem?_set_self hi] at el; cases el; cases ot
      · rw [List.getElem?_eq_none (by rw [List.length_set]; omega)] at el; cases el
    rw [List.getElem?_set_ne nj] at ej eσ
    rw [List.getElem?_set_ne nl] at el ⊢
    exact r.apart j l s t a hne ej el os ot eσ
theorem Rp.un0 {i : Nat} (r : Rp K g F ss sl σ H) : Rp K g F ss (sl.set i .un) σ H := by
  have h := r.un (i := i) (x := (σ[i]?).join)
  have e : σ.set i (σ[i]?).join = σ := by
    apply List.ext_getElem?
    intro j
    by_cases hj : i = j
    · subst hj
      by_cases hi : i < σ.length
      · rw [List.getElem?_set_self hi, List.getElem?_eq_getElem hi]; rfl
      · rw [List.getElem?_eq_none (by rw [List.length_set]; omega), List.getElem?_eq_none (by omega)]
    · rw [List.getElem?_set_ne hj]
  rw [e] at h
  exact h
theorem Rp.kill (r : Rp K g F ss sl σ H) : ∀ js : List Nat, Rp K g F ss (killS js sl) (wipe σ js) H
  | [] => r
  | _ :: js => (Rp.kill r js).un
theorem Rp.kill0 (r : Rp K g F ss sl σ H) : ∀ js : List Nat, Rp K g F ss (killS js sl) σ H
  | [] => r
  | _ :: js => (Rp.kill0 r js).un0
/-- a target -/
def LG (K : PySem.W.Frag) (g : G) (t : TGt) : TG := fun v σ H Q => ∃ F ss sl d sl', Rp K g F ss sl σ H ∧ FD K F H v d ∧ bindT t d sl = some sl' ∧ ∀ σ', Rp K g F ss sl' σ' H → σ'.length = σ.length → (∀ j, j ∉ t.slots → σ'[j]? = σ[j]? ∧ sl'[j]? = sl[j]?) → Q σ' H
def LGs (K : PySem.W.Frag) (g : G) (t : List TGt) : TGs := fun vs σ H Q => ∃ F ss sl ds sl', Rp K g F ss sl σ H ∧ FDs K F H vs ds ∧ bindTs t ds sl = some sl' ∧ ∀ σ', Rp K g F ss sl' σ' H → σ'.length = σ.length → (∀ j, j ∉ TGt.slotss t → σ'[j]? = σ[j]? ∧ sl'[j]? = sl[j]?) → Q σ' H
theorem PG.imp {X : Cx} {tg : Expr} {t t' : TG} (h : PG X tg t) (i : ∀ v σ H Q, t' v σ H Q → t v σ H Q) : PG X tg t' := ⟨fun pins s σ H v u Q I rv q => h.run pins s σ H v u Q I rv (i v σ H Q q)⟩
theorem PGs.imp {X : Cx} {tg : List Expr} {t t' : TGs} (h : PGs X tg t) (i : ∀ v σ H Q, t' v σ H Q → t v σ H Q) : PGs X tg t' := ⟨fun pins s σ H v u Q I rv q => h.run pins s σ H v u Q I rv (i v σ H Q q)⟩
theorem LG.one {i : Nat} {v : V} {Q : L2.St → Hp → Prop} (h : LG K g (.one i) v σ H Q) : gName i v σ H Q := by
  obtain ⟨F, ss, sl, d, sl', rp, hv, e, k⟩ := h
  have e : setS sl i (.v d) = some sl' := e
  unfold setS at e
  split at e <;> cases e
  exact k _ (rp.setV hv) (List.length_set ..) fun j hj => by
    have hj : i ≠ j := fun z => hj (by simp [TGt.slots, z])
    exact ⟨List.getElem?_set_ne hj, List.getElem?_set_ne hj⟩
theorem LGs.nil {vs : List V} {Q : L2.St → Hp → Prop} (h : LGs K g [] vs σ H Q) : gNil vs σ H Q := by
  obtain ⟨F, ss, sl, ds, sl', rp, hv, e, k⟩ := h
  cases hv with
  | nil => cases e; exact ⟨rfl, k _ rp rfl fun j _ => ⟨rfl, rfl⟩⟩
  | cons a b => cases e
theorem LGs.cons {t : TGt} {ts : List TGt} {vs : List V} {Q : L2.St → Hp → Prop} (h : LGs K g (t :: ts) vs σ H Q) : gCons (LG K g t) (LGs K g ts) vs σ H Q := by
  obtain ⟨F, ss, sl, ds, sl', rp, hv, e, k⟩ := h
  cases hv with
  | nil => cases e
  | cons a b =>
    obtain ⟨sl1, e1, e2⟩ := bind_of e
    refine ⟨_, _, rfl, F, ss, sl, _, sl1, rp, a, e1, fun σ1 r1 l1 k1 => ⟨F, ss, sl1, _, sl', r1, b, e2, fun σ2 r2 l2 k2 => k σ2 r2 (l2.trans l1) fun j hj => ?_⟩⟩
    simp only [TGt.slotss, List.mem_append, not_or] at hj
    obtain ⟨a1, a2⟩ := k1 j hj.1
    obtain ⟨b1, b2⟩ := k2 j hj.2
    exact ⟨b1.trans a1, b2.trans a2⟩
theorem LG.tup {ts : List TGt} {v : V} {n : Nat} {Q : L2.St → Hp → Prop} (h : LG K g (.tup ts) v σ H Q) (hn : ts.length = n) : gTup K n (LGs K g ts) v σ H Q := by
  obtain ⟨F, ss, sl, d, sl', rp, hv, e, k⟩ := h
  cases hv with
  | tup s r =>
    rename_i a vs ds
    have e : bindTs ts ds sl = some sl' := e
    have hl : ∀ (ts : List TGt) (ds : List D) (sl sl' : List SV), bindTs ts ds sl = some sl' → ts.length = ds.length := by
      intro ts
      induction ts with
      | nil => intro ds sl sl' e; cases ds <;> first | rfl | cases e
      | cons t ts ih =>
        intro ds sl sl' e
        cases ds with
        | nil => cases e
        | cons d ds => obtain ⟨sl1, e1, e2⟩ := bind_of e; simp [ih _ _ _ e2]
    exact ⟨a, vs, rfl, s, by rw [r.length, ← hl _ _ _ _ e, hn], F, ss, sl, ds, sl', rp, r, e, k⟩
  | _ => cases e
theorem CellOk.grow {c : Cell} {H1 : Hp} (h : CellOk K F H c) (gr : Gr g F F' H H') (hf : ¬ F g.C) (hc : c.isL = true → c.a ≠ g.C) : CellOk K F' H' c := by
  have k : Ke K F F' H H' := gr.ke hf
  obtain ⟨s0, s1, e0, e1⟩ := gr.src
  refine ⟨?_, h.2.keep k⟩
  have h1 := h.1
  by_cases hl : c.isL = true
  · rw [if_pos hl] at h1 ⊢
    exact gr.keep _ _ h1 (fun z => by rw [z, e0.1] at h1; cases h1) (hc hl)
  · rw [if_neg hl] at h1 ⊢
    exact k.tup _ _ h1
end
section
variable {X : Cx} {g : G} {sl : List SV}
theorem wipe_set (σ : L2.St) {vs : List Nat} {σ2 : L2.St} (hl : σ2.length = σ.length) (h : ∀ j, j ∉ vs → σ2[j]? = (wipe σ vs)[j]?) : wipe σ2 vs = wipe σ vs := by
  have key : ∀ (vs : List Nat) (τ : L2.St) (j : Nat), (wipe τ vs)[j]? = if j ∈ vs then (if j < τ.length then some none else none) else τ[j]? := by
    intro vs
    induction vs with
    | nil => intro τ j; simp [wipe]
    | cons v vs ih =>
      intro τ j
      unfold wipe
      by_cases hv : v = j
      · subst hv
        by_cases hj : v < τ.length
        · rw [List.getElem?_set_self (by rw [wipe_length]; exact hj)]; simp [hj]
        · rw [List.getElem?_eq_none (by rw [List.length_set, wipe_length]; omega)]; simp [hj]
      · rw [List.getElem?_set_ne hv, ih τ j]
        have : j ∈ v :: vs ↔ j ∈ vs := by simp [List.mem_cons, Ne.symm hv]
        simp only [this]
  apply List.ext_getElem?
  intro j
  rw [key vs σ2 j, key vs σ j]
  by_cases hj : j ∈ vs
  · simp [hj, hl]
  · have := h j hj
    rw [key vs σ j] at this
    simpa [hj] using this
/-- the reading of a comprehension -/
theorem LE.lc {K : PySem.W.Frag} {wi : TI} {tg : TGt} {tt : TT} {te : TE} {σ : L2.St} {H : Hp} {Q : VK} {m mi : SS → O R} {elt : List SV → SS → O R} {cn : List SV → SS → O Bool} {el : List SV → SS → O D} (h : LE K g m sl σ H Q)
    (hm : ∀ ss, m ss = (toI (mi ss)).bind fun p => (lcD (fun d ss => (bindT tg d (killS tg.slots sl)).bind fun sl' => (cn sl' ss).bind fun q =>
      if q.1 then (el sl' q.2).bind fun t => some (some t.1, t.2) else some (none, q.2)) p.1 p.2).bind fun q => if p.1.length ≤ SL then some (.fr q.1, q.2) else none)
    (hel : ∀ sl ss, el sl ss = toE (elt sl ss))
    (hwi : ∀ σ H R, LI K g false (fun ss => toI (mi ss)) sl σ H R → wi σ H R)
    (htt : ∀ sl' σ H Q, LT K g (cn sl') sl' σ H Q → tt σ H Q) (hte : ∀ sl' σ H Q, LE K g (elt sl') sl' σ H Q → te σ H Q) :
    tLc wi (LG K g tg) tt te tg.slots σ H Q := by
  obtain ⟨F, ss, r, ss', e, rp, k⟩ := h
  rw [hm] at e
  obtain ⟨⟨ds, s1⟩, e1, e⟩ := bind_of e
  obtain ⟨⟨ys, s2⟩, e2, e⟩ := bind_of e
  have e2 : lcD (fun d ss => (bindT tg d (killS tg.slots sl)).bind fun sl' => (cn sl' ss).bind fun q =>
      if q.1 then (el sl' q.2).bind fun t => some (some t.1, t.2) else some (none, q.2)) ds s1 = some (ys, s2) := e2
  obtain ⟨hsz, e⟩ : ds.length ≤ SL ∧ (some (R.fr ys, s2) : O R) = some (r, ss') := by
    by_cases hz : ds.length ≤ SL
    · exact ⟨hz, by rw [← e]; exact (if_pos hz).symm⟩
    · have e3 := (if_neg hz).symm.trans e
      cases e3
  cases e
  generalize hf : (fun (d : D) (ss : SS) => (bindT tg d (killS tg.slots sl)).bind fun sl' => (cn sl' ss).bind fun q =>
      if q.1 then (el sl' q.2).bind fun t => some ((some t.1 : Option D), t.2) else some (none, q.2)) = f at e2
  refine hwi _ _ _ ⟨F, ss, ds, s1, e1, rp, fun J H1 F1 cs g1 p1 wk pc org => fun D hD => ?_⟩
  have oC : ∀ c ∈ cs, c.isL = true → c.a ≠ g.C := fun c hc hl z => by
    obtain ⟨s0, _, z0, _⟩ := g1.src
    rcases org c hc hl with o | o | o
    · rw [z] at o; exact g1.fC o
    · rw [z, z0.2.1] at o; cases o.1
    · exact o.2.1 z
  have nD : D ≠ g.A ∧ D ≠ g.C := ⟨(p1.srcNe hD).1.symm, (p1.srcNe hD).2.symm⟩
  -- the state at a turn
  refine ⟨fun i n H => ∃ F2 t acc av rest, n = ds.length - i ∧ i ≤ ds.length ∧ Gr g F1 F2 H1 H ∧ SrcOk g.A g.C t H ∧ H D = some (.lst av) ∧ FDs K F2 H av acc ∧ ¬ F2 D ∧ acc.length ≤ i ∧ lcD f (ds.drop i) t = some (rest, ss') ∧ acc ++ rest = ys,
    ⟨ds.length, F1, s1, [], [], ys, by simp, Nat.zero_le _, p1.grUpd hD, p1.src.upd nD.1.symm nD.2.symm, upd_same, .nil, p1.at.nf hD, Nat.le_refl _, by simpa using e2, rfl⟩, ?_⟩
  rintro i n H2 ⟨F2, t, acc, av, rest, rfl, hi, g2, sr, hHD, hacc, nF, hlen, he, hys⟩
  have p2 := p1.step g2 sr
  have pc2 : Pcs K cs F2 H2 := fun c hc => (pc c hc).grow (H1 := H1) g2 p1.fC (oC c hc)
  by_cases hlt : i < ds.length
  · refine .inr ⟨wk.go i F2 H2 hlt pc2, fun H' => ∃ F2 t acc av rest, i + 1 ≤ ds.length ∧ Gr g F1 F2 H1 H' ∧ SrcOk g.A g.C t H' ∧ H' D = some (.lst av) ∧ FDs K F2 H' av acc ∧ ¬ F2 D ∧ acc.length ≤ i + 1 ∧ lcD f (ds.drop (i + 1)) t = some (rest, ss') ∧ acc ++ rest = ys,
      fun H' ⟨F2, t, acc, av, rest, a1, a2, a3, a4, a5, a6, a7, a8, a9⟩ => ⟨ds.length - (i + 1), by omega, F2, t, acc, av, rest, rfl, a1, a2, a3, a4, a5, a6, a7, a8, a9⟩, fun x H3 hy => ?_⟩
    obtain ⟨g3, sr3, d, hd, hx⟩ := wk.yld i F2 H2 t x H3 hlt p2.at pc2 hy
    have p3 := p2.step g3 sr3
    have ed : ds.drop i = d :: ds.drop (i + 1) := by
      rw [List.drop_eq_getElem_cons hlt]
      rw [List.getElem?_eq_getElem hlt] at hd
      cases hd; rfl
    rw [ed] at he
    -- the turn in the evaluator
    have hfd : f d t = (bindT tg d (killS tg.slots sl)).bind fun sl' => (cn sl' t).bind fun q => if q.1 then (el sl' q.2).bind fun t => some ((some t.1 : Option Pm.D), t.2) else some (none, q.2) := by rw [← hf]
    obtain ⟨oy, t1, eft, hrest⟩ : ∃ oy t1, f d t = some (oy, t1) ∧ (match oy with | some y => ∃ r', lcD f (ds.drop (i + 1)) t1 = some (r', ss') ∧ rest = y :: r' | none => lcD f (ds.drop (i + 1)) t1 = some (rest, ss')) := by
      unfold lcD at he
      cases q : f d t with
      | none => rw [q] at he; cases he
      | some p =>
        obtain ⟨oy, t1⟩ := p
        rw [q] at he
        cases oy with
        | none => exact ⟨none, t1, rfl, he⟩
        | some y =>
          obtain ⟨⟨r', s'⟩, e3, e4⟩ := map_of he
          cases e4
          exact ⟨some y, t1, rfl, r', e3, rfl⟩
    rw [hfd] at eft
    obtain ⟨sl', eb, eft⟩ := bind_of eft
    obtain ⟨⟨b, t2⟩, ec, eft⟩ := bind_of eft
    refine ⟨F2, t, killS tg.slots sl, d, sl', p3.kill _, hx, eb, fun σ' p4 l4 k4 => ⟨wipe_set σ (by rw [l4, wipe_length]) fun j hj => (k4 j hj).1, ?_⟩⟩
    refine htt sl' _ _ _ ⟨F2, t, b, t2, ec, p4, fun H5 F5 g5 p5 => ?_⟩
    have g15 : Gr g F1 F5 H1 H5 := g2.trans (g3.trans g5)
    have hD5 : H5 D = some (.lst av) := g5.keep _ _ (g3.keep _ _ hHD nD.1 nD.2) nD.1 nD.2
    have nF5 : ¬ F5 D := fun z => by
      rcases g5.new D z with z | z
      · exact nF z
      · rw [g3.keep _ _ hHD nD.1 nD.2] at z; cases z
    have hacc5 : FDs K F5 H5 av acc := (hacc.keep (g3.ke p2.fC)).keep (g5.ke p3.fC)
    cases b with
    | false =>
      rw [if_neg Bool.false_ne_true] at eft
      refine iteF ?_
      cases eft
      exact ⟨F5, t2, acc, av, rest, hlt, g15, p5.src, hD5, hacc5, nF5, by omega, hrest, hys⟩
    | true =>
      rw [if_pos rfl] at eft
      refine iteT ?_
      obtain ⟨⟨y, t3⟩, ee, eft⟩ := bind_of eft
      cases eft
      obtain ⟨r', hr', rfl⟩ := hrest
      rw [hel] at ee
      obtain ⟨ry, ey, esy⟩ := O.f_of ee
      refine hte sl' _ _ _ ⟨F5, t2, ry, _, ey, p5, fun z H6 F6 g6 p6 h6 => ?_⟩
      obtain ⟨F7, g7, f7⟩ := h6.esc esy g6
      have hD6 : H6 D = some (.lst av) := g6.keep _ _ hD5 nD.1 nD.2
      have nF7 : ¬ F7 D := fun z => by
        rcases g7.new D z with z | z
        · exact nF5 z
        · rw [hD5] at z; cases z
      have g17 : Gr g F1 F7 H1 H6 := g15.trans g7
      refine ⟨av, hD6, by rw [hacc.length, SL_eq]; omega, F7, t3, acc ++ [y], av ++ [z], r', hlt, ?_, ?_, upd_same, ?_, nF7, by rw [List.length_append, List.length_singleton]; omega, hr', by rw [List.append_assoc]; exact hys⟩
      · refine ⟨fun a o e n1 n2 => ?_, g17.sub, g17.new, fun a fa => ?_, g17.fC, ?_⟩
        · rw [upd_ne (ne_of_none e hD)]; exact g17.keep a o e n1 n2
        · obtain ⟨ws, e⟩ := g17.dom a fa
          exact ⟨ws, by rw [upd_ne (fun zz : a = D => nF7 (zz ▸ fa))]; exact e⟩
        · obtain ⟨s0, _, z0, _⟩ := g17.src
          exact ⟨s0, _, z0, p6.src.upd nD.1.symm nD.2.symm⟩
      · exact p6.src.upd nD.1.symm nD.2.symm
      · have ke : Ke K F7 F7 H6 (upd H6 D (.lst (av ++ [z]))) := by
          refine ⟨fun a ws s => ?_, fun a ws fa e => ⟨fa, by rw [upd_ne (fun zz : a = D => nF7 (zz ▸ fa))]; exact e⟩⟩
          rcases s with (s | ⟨o, s⟩) | s
          · exact .inl (.inl (by rw [upd_ne (fun zz : a = D => by rw [zz, hD6] at s; cases s)]; exact s))
          · exact .inl (.inr ⟨o, by rw [upd_ne (fun zz : a = D => by rw [zz, hD6] at s; cases s)]; exact s⟩)
          · exact .inr s
        exact (((hacc5.keep (g7.ke p5.fC)).append (.one f7))).keep ke
  · have ei : i = ds.length := by omega
    subst ei
    rw [List.drop_length] at he
    have he : some (([] : List Pm.D), t) = some (rest, ss') := he
    cases he
    rw [List.append_nil] at hys
    subst hys
    exact .inl ⟨wk.stop F2 H2 pc2, k _ H2 F2 (g1.trans g2) p2 ⟨D, av, rfl, hHD, hacc, nF, g1.back hD⟩⟩
end
end Pm
namespace Pm
open PySem PySem.Spec PyProof.Rows L2
/-- a promise: arguments, heap, what follows; nothing is raised -/
abbrev SpG := List V → Hp → VK → Prop
/-- the def at f keeps it (where no repr is under way) -/
structure FnG (P : Program) (w : World) (K : PySem.W.Frag) (mg : Str → Option Value) (base : Heap) (k : Nat) (f : Addr) (fd : FuncData) (ps : List Str) (sp : SpG) : Prop where
  len : ∀ vs H Q, sp vs H Q → vs.length = ps.length
  run : ∀ (A : Around) (outer : List Env) (s : Shared) (H : Hp) (args : Args) (us : List Value) (vs : List V) (Q : VK), Room k A → A.guards = some [] → Env0 P w K mg base A outer s H →
    BindsTo s fd args (ps.zip us) → Vals vs us → sp vs H Q → codeAny (model P w) A (.call (.ref f) args) (CR CX0 outer P w H s Q E0) s
theorem FnG.mono {P : Program} {w : World} {K : PySem.W.Frag} {mg : Str → Option Value} {base : Heap} {j k : Nat} {f : Addr} {fd : FuncData} {ps : List Str} {sp : SpG} (F : FnG P w K mg base j f fd ps sp) (h : j ≤ k) :
    FnG P w K mg base k f fd ps sp := ⟨F.len, fun A outer s H args us vs Q hr => F.run A outer s H args us vs Q (hr.mono h)⟩
theorem deeper_guards {A : Around} {env : Env} (h : A.guards = some []) : (A.deeper env).guards = some [] := h
inductive AsOk (K : PySem.W.Frag) (g : G) (F : Addr → Prop) (H : Hp) : List AV → List V → Prop
  | nil : AsOk K g F H [] []
  | v {d : D} {x : V} {as : List AV} {xs : List V} : FD K F H x d → AsOk K g F H as xs → AsOk K g F H (.v d :: as) (x :: xs)
  | src {as : List AV} {xs : List V} : AsOk K g F H as xs → AsOk K g F H (.src :: as) (.ref g.A :: xs)
/-- the promise of a def whose meaning is f -/
def spF (K : PySem.W.Frag) (np : Nat) (f : Fn) : SpG := fun vs H Q => vs.length = np ∧ ∃ g F ss as r ss', f as ss = some (r, ss') ∧ isOut r = true ∧ At K g F ss H ∧ AsOk K g F H as vs ∧
  ∀ z H' F', Gr g F F' H H' → SrcOk g.A g.C ss' H' → RR K g F' H H' r z → Q z H'
/-- the name x of the module is such a def -/
def CallOk (P : Program) (w : World) (K : PySem.W.Frag) (mg : Str → Option Value) (base : Heap) (k : Nat) (x : Str) (f : Fn) : Prop :=
  ∃ a fd ps np, FnG P w K mg base k a fd ps (spF K np f) ∧ np = ps.length ∧ mg x = some (.ref a) ∧ PySem.W.keepIn K (.ref a) = true ∧ Binds K fd ps [] ∧ ∀ as ss r, f as ss = some r → as.length = np
section
variable {K : PySem.W.Frag} {g : G} {F F' : Addr → Prop} {H H' H0 : Hp} {ss : SS} {sl : List SV} {σ : L2.St}
theorem AsOk.mono (h : ∀ a, F a → F' a) : ∀ {as : List AV} {xs : List V}, AsOk K g F H as xs → AsOk K g F' H as xs
  | _, _, .nil => .nil
  | _, _, .v a r => .v (a.keep ⟨fun _ _ e => e, fun _ _ f e => ⟨h _ f, e⟩⟩) (AsOk.mono h r)
  | _, _, .src r => .src (AsOk.mono h r)
theorem AsOk.length : ∀ {as : List AV} {xs : List V}, AsOk K g F H as xs → as.length = xs.length
  | _, _, .nil => rfl
  | _, _, .v _ r => congrArg (· + 1) (AsOk.length r)
  | _, _, .src r => congrArg (· + 1) (AsOk.length r)
/-- the arguments as values that the callee keeps -/
theorem RRs.as (dom : ∀ a, F a → ∃ vs, H a = some (.lst vs)) (fC : ¬ F g.C) (hC : H0 g.C ≠ none) : ∀ {rs : List R} {xs : List V} {as : List AV}, RRs K g F H0 H rs xs → toAs rs = some as →
    ∃ F2 : Addr → Prop, (∀ a, F a → F2 a) ∧ (∀ a, F2 a → ∃ vs, H a = some (.lst vs)) ∧ ¬ F2 g.C ∧ AsOk K g F2 H as xs ∧ (rs.any isBo = false → ∀ a, F2 a → F a ∨ H0 a = none)
  | _, _, _, .nil, e => by cases e; exact ⟨F, fun _ h => h, dom, fC, .nil, fun _ _ h => .inl h⟩
  | r :: rs, x :: xs, as, .cons h t, e => by
    obtain ⟨a, e1, e2⟩ := bind_of e
    obtain ⟨as', e3, e4⟩ := map_of e2
    cases e4
    obtain ⟨F2, h1, h2, h3, h4, h5⟩ := RRs.as dom fC hC t e3
    have new : ∀ (p : Addr) (vs : List V) (ys : List D), H p = some (.lst vs) → FDs K F H vs ys → p ≠ g.C → (isBo r = false → H0 p = none) → toA r = some (.v (.list ys)) → x = .ref p →
        ∃ F2 : Addr → Prop, (∀ a, F a → F2 a) ∧ (∀ a, F2 a → ∃ vs, H a = some (.lst vs)) ∧ ¬ F2 g.C ∧ AsOk K g F2 H (a :: as') (x :: xs) ∧ ((r :: rs).any isBo = false → ∀ a, F2 a → F a ∨ H0 a = none) := by
      intro p vs ys q1 q2 q3 q4 q5 q6
      rw [e1] at q5
      cases q5
      subst q6
      refine ⟨fun b => F2 b ∨ b = p, fun b f => .inl (h1 b f), fun b f => ?_, fun f => ?_, .v (.lst (.inr rfl) q1 (q2.keep ⟨fun _ _ e => e, fun _ _ f e => ⟨.inl (h1 _ f), e⟩⟩)) (h4.mono fun _ f => .inl f), fun hb b f => ?_⟩
      · rcases f with f | rfl
        · exact h2 b f
        · exact ⟨vs, q1⟩
      · rcases f with f | f
        · exact h3 f
        · exact q3 f.symm
      · simp only [List.any_cons, Bool.or_eq_false_iff] at hb
        rcases f with f | rfl
        · exact h5 hb.2 b f
        · exact .inr (q4 hb.1)
    cases r with
    | v d => cases e1; exact ⟨F2, h1, h2, h3, .v (FD.keep ⟨fun _ _ e => e, fun _ _ f e => ⟨h1 _ f, e⟩⟩ h) h4, fun hb => h5 (by simp only [List.any_cons, Bool.or_eq_false_iff] at hb; exact hb.2)⟩
    | fr ys => obtain ⟨p, vs, q0, q1, q2, q3, q4⟩ := h; exact new p vs ys q1 q2 (fun z => hC (z ▸ q4)) (fun _ => q4) rfl q0
    | bo ys => obtain ⟨p, vs, q0, q1, q2, q3, q4⟩ := h; exact new p vs ys q1 q2 q3 (fun z => by cases z) rfl q0
    | src => cases e1; obtain rfl : x = _ := h; exact ⟨F2, h1, h2, h3, .src h4, fun hb => h5 (by simp only [List.any_cons, Bool.or_eq_false_iff] at hb; exact hb.2)⟩
    | _ => cases e1
theorem SrcOk.someC (s : SrcOk g.A g.C ss H) : H g.C ≠ none := by rw [s.2.1]; simp
/-- a call: its reading -/
theorem LE.call {Q : VK} {m : SS → O R} {ms : SS → O (List R)} {f : Fn} {np : Nat} (h : LE K g m sl σ H Q) (hm : ∀ ss, m ss = (ms ss).bind fun p => callD f p.1 p.2) (hl : ∀ as ss r, f as ss = some r → as.length = np) :
    LA K g ms sl σ H fun vs H1 => spF K np f vs H1 Q := by
  obtain ⟨F, ss, r, ss', e, rp, k⟩ := h
  rw [hm] at e
  obtain ⟨⟨rs, s1⟩, e1, e⟩ := bind_of e
  obtain ⟨as, e2, e⟩ := bind_of e
  obtain ⟨⟨r', s2⟩, e3, e⟩ := bind_of e
  have e4 : (isOut r' = true ∧ (rs.any isBo = true → r'.lf = true)) ∧ (r', s2) = (r, ss') := by
    by_cases hc : isOut r' = true ∧ (rs.any isBo = true → r'.lf = true)
    · exact ⟨hc, Option.some.inj ((if_pos hc).symm.trans e)⟩
    · have := (if_neg hc).symm.trans e; cases this
  obtain ⟨⟨ho, hb⟩, e4⟩ := e4
  cases e4
  refine ⟨F, ss, rs, s1, e1, rp, fun xs H1 F1 g1 p1 h1 => ?_⟩
  obtain ⟨F2, q1, q2, q3, q4, q5⟩ := h1.as g1.dom g1.fC rp.src.someC e2
  have a2 : At K g F2 s1 H1 := ⟨q2, q3, p1.src⟩
  refine ⟨by rw [← q4.length]; exact hl _ _ _ e3, g, F2, s1, as, r, ss', e3, ho, a2, q4, fun z H3 F3 g3 s3 h3 => ?_⟩
  cases hbo : rs.any isBo with
  | false =>
    have g2 : Gr g F F2 H H1 := ⟨g1.keep, fun a f => q1 a (g1.sub a f), fun a f => by
      rcases q5 hbo a f with z | z
      · exact g1.new a z
      · exact .inr z, q2, q3, g1.src⟩
    have gg := g2.trans g3
    exact k z H3 F3 gg (rp.step gg s3) (h3.early g2)
  | true =>
    have lf := hb hbo
    have g2 : Gr g F1 F1 H1 H3 := ⟨g3.keep, fun _ f => f, fun _ f => .inl f, fun a f => by
      obtain ⟨vs, e⟩ := g1.dom a f
      obtain ⟨s0, _, z0, _⟩ := g3.src
      exact ⟨vs, g3.keep a _ e (fun z => by rw [z, z0.1] at e; cases e) (fun z => g1.fC (z ▸ f))⟩, g1.fC, ⟨_, _, p1.src, s3⟩⟩
    refine k z H3 F1 (g1.trans g2) (p1.step g2 s3) ?_
    cases r with
    | v d => exact FD.free (F := F3) (H := H3) (fun _ _ e => e) h3 lf
    | fr ys =>
      obtain ⟨p, vs, w0, w1, w2, w3, w4⟩ := h3
      exact ⟨p, vs, w0, w1, FDs.free (fun _ _ e => e) w2 lf, fun f => (by obtain ⟨ws, e⟩ := g1.dom p f; rw [w4] at e; cases e), g1.back w4⟩
    | src => exact h3
    | _ => cases ho
end
section
variable {X : Cx} {k : Nat} {f : Addr} {fd : FuncData} {ps : List Str} {sp : SpG} {x : Str} {p pos : Pos} {e : Expr} {es : List Expr} {t : TA}
theorem runG {pins : List (Addr × Obj)} {σ : L2.St} {H : Hp} {s : Shared} {Q : VK} {us : List Value} {vs : List V} (F : FnG X.prog X.w X.K X.mg X.base k f fd ps sp) (hr : Room k X.A) (hg : X.A.guards = some []) (hb : Binds X.K fd ps [])
    (I : Inv X pins σ H s) (r : Vals vs us) (h : sp vs H Q) : wpAny (model X.prog X.w) X.A (call (.ref f) us) (EP X pins σ Q) X.xe s := by
  have hl : us.length = ps.length := by rw [← r.length]; exact F.len _ _ _ h
  have hb' := hb s us I.kIn (by rw [List.append_nil]; exact hl)
  rw [List.append_nil] at hb'
  refine wpAny_call (codeAny_mono (F.run X.A X.stack s H ⟨us, []⟩ us vs Q hr hg I.env0 hb' r h) fun r s' hq => ?_)
  cases r with
  | error e => exact False.elim hq
  | ok fl =>
    cases fl with
    | ret u => exact I.after hq
    | _ => exact False.elim hq
/-- f(e, ..) -/
theorem pe_callG (F : FnG X.prog X.w X.K X.mg X.base k f fd ps sp) (hr : Room k X.A) (hgu : X.A.guards = some []) (hg : Gl X x) (hm : X.mg x = some (.ref f)) (hk : PySem.W.keepIn X.K (.ref f) = true) (hb : Binds X.K fd ps [])
    (hdb : (x == ("__debug__" : Str)) = false) (ha : PA X (e :: es) t) (he : starEach (e :: es) X.env = (false, eval e X.env) :: starEach es X.env) (hpl : (backTo pos (starEach es X.env)).any (·.1) = false) :
    PE X (.Call (.Name x p) (e :: es) [] pos) (fun σ H Q => t σ H fun vs H1 => sp vs H1 Q) := by
  refine ⟨fun pins s σ H Q I h => ?_⟩
  refine wpAny_Call_Name_kw (ld_glob I hg hm ?_ hdb)
  refine PySem.W.callWith_K (h₀ := X.base) I.ok.mod.kin hk (thn (ha.run pos pins s σ H _ I h) fun us s1 ⟨vs, H1, I1, r, q⟩ => ?_) he hpl
  exact ⟨I1.kIn, runG F hr hgu hb I1 r q⟩
theorem pe_callG0 (F : FnG X.prog X.w X.K X.mg X.base k f fd ps sp) (hr : Room k X.A) (hgu : X.A.guards = some []) (hg : Gl X x) (hm : X.mg x = some (.ref f)) (hk : PySem.W.keepIn X.K (.ref f) = true) (hb : Binds X.K fd ps [])
    (hdb : (x == ("__debug__" : Str)) = false) : PE X (.Call (.Name x p) [] [] pos) (fun σ H Q => sp [] H Q) := by
  refine ⟨fun pins s σ H Q I h => ?_⟩
  refine wpAny_Call_Name_kw (ld_glob I hg hm ?_ hdb)
  exact PySem.W.callWith_K0 I.kIn hk (runG (us := []) F hr hgu hb I .nil h)
end
/-- a def, by its body -/
theorem fnG_of {P : Program} {w : World} {K : PySem.W.Frag} {mg : Str → Option Value} {base : Heap} {k : Nat} {f : Addr} {name qual : Str} {params : Arguments} {body : List Stmt} {scope : Scope} {dV kV doc pm cdv ct oc : Value} {an od : Option Addr}
    {osl : Array (Option Value)} {N ps : List Str} {sp : SpG} (lk : K.lookup f = some ⟨oc, od, .func (PySem.W.fnOf name qual params body scope dV kV doc pm an cdv ct), osl⟩) (hcd : PySem.W.codeIn K cdv qual = true) (S : FnScope N ps scope)
    (len : ∀ vs H Q, sp vs H Q → vs.length = ps.length)
    (hbody : ∀ (A : Around) (outer : List Env) (s : Shared) (H : Hp) (vs : List V) (Q : VK), Room k (A.deeper (envOfC qual scope s.heap.objs.size f cdv)) → (A.deeper (envOfC qual scope s.heap.objs.size f cdv)).guards = some [] → sp vs H Q →
      ∃ t, PSs (cxOf CX0 P w K mg base N qual scope f cdv A outer s H E0) body t ∧ t { nx := fun _ H' => Q .non H', rt := Q } (start N vs) H) :
    FnG P w K mg base (k + 1) f (PySem.W.fnOf name qual params body scope dV kV doc pm an cdv ct) ps sp := by
  refine ⟨len, fun A outer s H args us vs Q hr hg e0 hb r hsp => ?_⟩
  have hl := len _ _ _ hsp
  have base_keep : ∀ b o, base.get? b = some o → s.heap.get? b = some o := fun b o e => (e0.bs b o e).1
  have KX : K.In s.heap := e0.mod.kin.keeps base_keep
  refine codeAny_call_function hr.depth (KX _ _ lk) rfl S.co S.gen rfl (PySem.W.codeRec_of KX hcd) (hb _ _ _ _ ?_)
  refine wpAny_newFunctionEnv_cells S.kind (fun ⟨n, v⟩ hy => ?_) fun env he s1 x => ?_
  · exact (S.par n (List.of_mem_zip hy).1).elim .inl fun q => .inr ⟨q, PySem.W.cellsFrom_some _ _ _ (.inl q)⟩
  subst he
  have lim : s.heap.NoLimit := e0.mod.nolimit.keeps base_keep
  refine ⟨lim.keeps x.toInCall.keep, codeAny_func ?_⟩
  obtain ⟨t, ht, hq⟩ := hbody A outer s H vs Q (hr.deeper _) (deeper_guards hg) hsp
  have I := inv_start (CX := CX0) (E := E0) S hr.hd e0 hl r x
  refine wpAny_mono (ht.run [] s1 (start N vs) H _ I hq) (fun fl s' hs => ?_) fun e s' hs => hs
  have fin : ∀ {σ' : L2.St} {H' : Hp} {v : V} {u : Value}, Inv (cxOf CX0 P w K mg base N qual scope f cdv A outer s H E0) [] σ' H' s' → RelV v u → Q v H' → L2.CE outer P w H s Q u s' :=
    fun {_ H' v _} J rv q => ⟨v, H', J.os, J.bare, J.base, J.hok, rv, q⟩
  cases fl with
  | ret u => obtain ⟨v, σ', H', J, rv, q⟩ := hs; exact fin J rv q
  | next => obtain ⟨σ', H', J, q⟩ := hs; exact fin (v := V.non) (u := Value.none) J rfl q
  | brk => obtain ⟨_, _, _, q⟩ := hs; exact False.elim q
  | cont => obtain ⟨_, _, _, q⟩ := hs; exact False.elim q
end Pm
namespace Pm
open PySem PySem.Spec PyProof.Rows L2
/-! ### does a core term say what the text says -/
def visB (sc : Scope) (x : Str) : Bool := match sc.names.lookup x with
  | some .local => true | some .cell => true | some .free => true | _ => false
def locB (sc : Scope) (x : Str) : Bool := match sc.names.lookup x with
  | some .local => true | some .cell => true | _ => false
def gloB (sc : Scope) (x : Str) : Bool := sc.names.lookup x == some .globalImplicit
def noDbg (x : Str) : Bool := !(x == ("__debug__" : Str)) && !(x == ("__classdict__" : Str))
def cstB : D → Const → Bool
  | .none, .none => true
  | .bool b, .bool c => b == c
  | .int i, .int j => i == j
  | .str x, .str y => x == y
  | _, _ => false
def bopB : BOp → Operator → Bool
  | .add, .Add => true | .sub, .Sub => true | .mul, .Mult => true | .fdiv, .FloorDiv => true | .mod, .Mod => true | .pow, .Pow => true
  | _, _ => false
def noneB : Expr → Bool
  | .Constant .none _ _ => true
  | _ => false
def boolB (b : Bool) : Expr → Bool
  | .Constant (.bool c) _ _ => b == c
  | _ => false
def setB : Expr → Bool
  | .Set _ _ _ => true
  | _ => false
def copB : COp → CmpOp → Expr → Bool
  | .eq, .Eq, _ => true | .ne, .NotEq, _ => true | .lt, .Lt, _ => true | .le, .LtE, _ => true | .gt, .Gt, _ => true | .ge, .GtE, _ => true
  | .isin, .In, e => !setB e | .notin, .NotIn, e => !setB e
  | .isn, .Is, e => noneB e | .notn, .IsNot, e => noneB e
  | .isb b, .Is, e => boolB b e | .notb b, .IsNot, e => boolB b e
  | _, _, _ => false
def biName : Bi → Str
  | .len => "len" | .int => "int" | .abs => "abs" | .max2 => "max" | .min2 => "min" | .max1 => "max" | .min1 => "min" | .sum => "sum" | .all => "all" | .any => "any"
  | .list => "list" | .tuple => "tuple" | .sorted => "sorted" | .repr => "repr" | .isint => "isinstance" | .isbool => "isinstance" | .istuple => "isinstance" | .isstr => "isinstance" | .islist => "isinstance"
  | _ => "?"
def biIs : Bi → Option String
  | .isint => some "int" | .isbool => some "bool" | .istuple => some "tuple" | .isstr => some "str" | .islist => some "list"
  | _ => none
def biPlain : Bi → Bool
  | .len | .int | .abs | .max2 | .min2 | .max1 | .min1 | .sum | .all | .any | .list | .tuple | .sorted | .repr => true
  | _ => false
def bltNames : List Str := ["len", "int", "abs", "max", "min", "sum", "all", "any", "list", "tuple", "sorted", "repr", "isinstance", "range", "enumerate", "bool", "str", "dict"]
def dofN : Bool → Str
  | true => "sorted"
  | false => "len"
def starB : Expr → Bool
  | .Starred _ _ => true
  | _ => false
def SK.name : SK → Str
  | .left => "left"
  | .mixed => "mixed"
  | .turn => "turn"
mutual
/-- a target; st: the names that may be stored -/
def chkT (st : Str → Bool) (N : List Str) : TGt → Expr → Bool
  | .one i, .Name x _ => N[i]? == some x && st x
  | .tup ts, .Tuple es _ _ => chkTs st N ts es
  | _, _ => false
def chkTs (st : Str → Bool) (N : List Str) : List TGt → List Expr → Bool
  | [], [] => true
  | t :: ts, e :: es => chkT st N t e && chkTs st N ts es
  | _, _ => false
end
mutual
def TGt.names (N : List Str) : TGt → List (Str × Nat)
  | .one i => [(N.getD i "", i)]
  | .tup ts => TGt.namess N ts
def TGt.namess (N : List Str) : List TGt → List (Str × Nat)
  | [] => []
  | t :: ts => t.names N ++ TGt.namess N ts
end
/-- a comprehension's block -/
def blkB (N : List Str) (sc scope : Scope) (own : List (Str × Nat)) : Bool :=
  (scope.kind == .function) && scope.names.all (fun y => scope.names.lookup y.1 == some y.2) && own.all (fun p => N[p.2]? == some p.1) &&
  scope.names.all (fun y => !(y.2 == .free) || sc.names.lookup y.1 == some .cell || sc.names.lookup y.1 == some .free) &&
  scope.names.all (fun y => !(y.2 == .local || y.2 == .cell) || (own.map (·.1)).contains y.1 || !N.contains y.1)
def revB : Expr → Bool
  | .Slice none none (some (.UnaryOp .USub (.Constant (.int 1) _ _) _)) _ => true
  | _ => false
def rangeB (sc : Scope) (x : Str) : Bool := x == "range" && gloB sc "range"
/-- a value, no mere thing to be walked -/
def vl : CE → Bool
  | .rg1 _ | .rg2 _ _ | .rg3 _ _ _ | .enm _ | .zip _ _ | .star _ | .nop => false
  | _ => true
def tupB : Expr → Bool
  | .Tuple _ _ _ => true
  | _ => false
def enB : CE → Bool
  | .enm _ => true
  | .zip _ _ => true
  | _ => false
def meName : Me → Str
  | .index => "index" | .count => "count" | _ => "?"
/-- o.m: no super() -/
def baseB : Expr → Bool
  | .Call (.Name _ _) [] [] _ => false
  | _ => true
def inB : Bool → CmpOp → Bool
  | true, .In => true
  | false, .NotIn => true
  | _, _ => false
mutual
def chkE (sc : Scope) (N : List Str) : CE → Expr → Bool
  | .lit d, .Constant c _ _ => cstB d c
  | .loc i, .Name x _ => N[i]? == some x && visB sc x && noDbg x
  | .glo y _, .Name x _ => x == y && gloB sc x && noDbg x
  | .bin o a b, .BinOp l p r _ => bopB o p && vl a && chkE sc N a l && vl b && chkE sc N b r
  | .neg a, .UnaryOp p e _ => (p == .USub) && vl a && chkE sc N a e
  | .not a, .UnaryOp p e _ => (p == .Not) && vl a && chkE sc N a e
  | .and a b, .BoolOp p (x :: y :: rest) pos => (p == .And) && vl a && chkE sc N a x && vl b && (match rest with | [] => chkE sc N b y | _ => chkE sc N b (.BoolOp .And (y :: rest) pos))
  | .or a b, .BoolOp p (x :: y :: rest) pos => (p == .Or) && vl a && chkE sc N a x && vl b && (match rest with | [] => chkE sc N b y | _ => chkE sc N b (.BoolOp .Or (y :: rest) pos))
  | .cmp o a b, .Compare l [p] [r] _ => copB o p r && vl a && chkE sc N a l && vl b && chkE sc N b r
  | .cmp2 o o' a b c, .Compare l [p, p'] [r, r'] _ => copB o p r && copB o' p' r' && !setB r && !setB r' && vl a && chkE sc N a l && vl b && chkE sc N b r && vl c && chkE sc N c r'
  | .ife c a b, .IfExp t x y _ => vl c && chkE sc N c t && vl a && chkE sc N a x && vl b && chkE sc N b y
  | .tup es, e => match e with
    | .Tuple xs _ _ => chkX sc N es xs
    | .Call (.Name x _) [e] [] _ => (x == "tuple" && gloB sc "tuple") && chkR sc N es e
    | _ => false
  | .lst es, e => match e with
    | .List xs _ => chkX sc N es xs
    | .Call (.Name x _) [e] [] _ => (x == "list" && gloB sc "list") && chkR sc N es e
    | _ => false
  | .lc elt tg it cond, .ListComp e [⟨t, i, ifs, as⟩] scope _ => (as == 0) && blkB N sc scope (tg.names N) && chkT (fun x => locB scope x) N tg t && (!enB it || tupB t) && chkE sc N it i && !setB i &&
      vl elt && chkE (relS scope sc) N elt e && chkA (relS scope sc) N cond ifs && decide (ifs.length ≤ 1)
  | .idx a i, .Subscript x y _ => vl a && chkE sc N a x && vl i && chkE sc N i y
  | .sli a lo hi, .Subscript x (.Slice l u s _) _ => s.isNone && vl a && chkE sc N a x && (match l with | none => isNop lo | some l => !isNop lo && vl lo && chkE sc N lo l) && (match u with | none => isNop hi | some u => !isNop hi && vl hi && chkE sc N hi u)
  | .rev a, .Subscript x s _ => revB s && vl a && chkE sc N a x
  | .bi f es, .Call (.Name x _) args [] _ => (x == biName f) && gloB sc x && (match biIs f with
      | some T => chkIs sc N T es args
      | none => biPlain f && chkA sc N es args && !args.isEmpty)
  | .call y _ es, .Call (.Name x _) args [] _ => (x == y) && gloB sc x && noDbg x && chkA sc N es args
  | .rg1 a, .Call (.Name x _) [e] [] _ => rangeB sc x && vl a && chkE sc N a e
  | .rg2 a b, .Call (.Name x _) [e, f] [] _ => rangeB sc x && vl a && chkE sc N a e && vl b && chkE sc N b f
  | .sget k i, .Subscript (.Name x _) (.Constant (.str y) _ _) _ => N[i]? == some x && visB sc x && noDbg x && (y == k.name)
  | .slen i, .Call (.Name f _) [.Subscript (.Name x _) (.Constant (.str y) _ _) _] [] _ => (f == "len") && gloB sc f && N[i]? == some x && visB sc x && noDbg x && (y == "cells")
  | .met m o es, .Call (.Attribute oe x ap) [a] [] cp => (x == meName m) && (ap.endLine == cp.line) && baseB oe && vl o && chkE sc N o oe && chkA sc N es [a]
  | .newk, .Dict [] [] _ => true
  | .dhas b k i, .Compare l [p] [.Name x _] _ => inB b p && N[i]? == some x && visB sc x && noDbg x && vl k && chkE sc N k l
  | .dget i k, .Subscript (.Name x _) ke _ => N[i]? == some x && visB sc x && noDbg x && vl k && chkE sc N k ke
  | .dget2 i k d, .Call (.Attribute (.Name x _) m ap) [a, b] [] cp => N[i]? == some x && visB sc x && noDbg x && (m == "get") && (ap.endLine == cp.line) && vl k && chkE sc N k a && vl d && chkE sc N d b
  | .dof s a, .Call (.Name x _) [.Call (.Name y _) [e] [] _] [] _ => (x == dofN s && gloB sc x) && (y == "dict" && gloB sc y) && vl a && chkE sc N a e
  | .enm a, .Call (.Name x _) [e] [] _ => (x == "enumerate" && gloB sc "enumerate") && vl a && chkE sc N a e
  | _, _ => false
/-- arguments -/
def chkA (sc : Scope) (N : List Str) : List CE → List Expr → Bool
  | [], [] => true
  | c :: cs, e :: es => vl c && chkE sc N c e && chkA sc N cs es
  | _, _ => false
def chkIs (sc : Scope) (N : List Str) (T : String) : List CE → List Expr → Bool
  | [c], [e, .Name t _] => t == (T : Str) && gloB sc t && vl c && chkE sc N c e
  | _, _ => false
/-- a display's items -/
def chkX (sc : Scope) (N : List Str) : List CE → List Expr → Bool
  | [], [] => true
  | c :: cs, e :: es => (match c, e with
    | .star (.rg1 a), .Starred (.Call (.Name x _) [e] [] _) _ => rangeB sc x && vl a && chkE sc N a e
    | .star (.rg2 a b), .Starred (.Call (.Name x _) [e, f] [] _) _ => rangeB sc x && vl a && chkE sc N a e && vl b && chkE sc N b f
    | .star c, .Starred e _ => vl c && chkE sc N c e
    | c, e => vl c && chkE sc N c e) && chkX sc N cs es
  | _, _ => false
/-- a range, as a value -/
def chkR (sc : Scope) (N : List Str) : List CE → Expr → Bool
  | [.star (.rg1 a)], .Call (.Name x _) [e] [] _ => rangeB sc x && vl a && chkE sc N a e
  | [.star (.rg2 a b)], .Call (.Name x _) [e, f] [] _ => rangeB sc x && vl a && chkE sc N a e && vl b && chkE sc N b f
  | _, _ => false
end
end Pm
namespace Pm
open PySem PySem.Spec PyProof.Rows L2
mutual
def calls : Pm.CE → List (Str × Fn)
  | .bin _ a b => calls a ++ calls b
  | .neg a => calls a
  | .not a => calls a
  | .and a b => calls a ++ calls b
  | .or a b => calls a ++ calls b
  | .cmp _ a b => calls a ++ calls b
  | .cmp2 _ _ a b c => calls a ++ calls b ++ calls c
  | .ife a b c => calls a ++ calls b ++ calls c
  | .tup es => callss es
  | .lst es => callss es
  | .star e => calls e
  | .lc e _ it cond => calls e ++ calls it ++ callss cond
  | .rg1 a => calls a
  | .rg2 a b => calls a ++ calls b
  | .rg3 a b c => calls a ++ calls b ++ calls c
  | .enm a => calls a
  | .dof _ a => calls a
  | .zip a b => calls a ++ calls b
  | .idx a b => calls a ++ calls b
  | .sli a b c => calls a ++ calls b ++ calls c
  | .rev a => calls a
  | .bi _ es => callss es
  | .met _ o es => calls o ++ callss es
  | .call x f es => (x, f) :: callss es
  | .dhas _ k _ => calls k
  | .dget _ k => calls k
  | .dget2 _ k d => calls k ++ calls d
  | _ => []
def callss : List Pm.CE → List (Str × Fn)
  | [] => []
  | c :: cs => calls c ++ callss cs
end
mutual
def globs : Pm.CE → List (Str × D)
  | .glo x d => [(x, d)]
  | .bin _ a b => globs a ++ globs b
  | .neg a => globs a
  | .not a => globs a
  | .and a b => globs a ++ globs b
  | .or a b => globs a ++ globs b
  | .cmp _ a b => globs a ++ globs b
  | .cmp2 _ _ a b c => globs a ++ globs b ++ globs c
  | .ife a b c => globs a ++ globs b ++ globs c
  | .tup es => globss es
  | .lst es => globss es
  | .star e => globs e
  | .lc e _ it cond => globs e ++ globs it ++ globss cond
  | .rg1 a => globs a
  | .rg2 a b => globs a ++ globs b
  | .rg3 a b c => globs a ++ globs b ++ globs c
  | .enm a => globs a
  | .dof _ a => globs a
  | .zip a b => globs a ++ globs b
  | .idx a b => globs a ++ globs b
  | .sli a b c => globs a ++ globs b ++ globs c
  | .rev a => globs a
  | .bi _ es => globss es
  | .met _ o es => globs o ++ globss es
  | .call _ _ es => globss es
  | .dhas _ k _ => globs k
  | .dget _ k => globs k
  | .dget2 _ k d => globs k ++ globs d
  | _ => []
def globss : List Pm.CE → List (Str × D)
  | [] => []
  | c :: cs => globs c ++ globss cs
end
def GlobOk (K : PySem.W.Frag) (mg : Str → Option Value) (x : Str) (d : D) : Prop := ∃ u v, mg x = some u ∧ RelV v u ∧ ∀ F H, FD K F H v d
def CallsOk (X : Cx) (j : Nat) (l : List (Str × Fn)) : Prop := ∀ p ∈ l, ∃ k, k ≤ j ∧ CallOk X.prog X.w X.K X.mg X.base k p.1 p.2
def GlobsOk (X : Cx) (l : List (Str × D)) : Prop := ∀ p ∈ l, GlobOk X.K X.mg p.1 p.2
theorem CallsOk.app {X : Cx} {j : Nat} {l m : List (Str × Fn)} (h : CallsOk X j (l ++ m)) : CallsOk X j l ∧ CallsOk X j m :=
  ⟨fun p hp => h p (List.mem_append_left _ hp), fun p hp => h p (List.mem_append_right _ hp)⟩
theorem GlobsOk.app {X : Cx} {l m : List (Str × D)} (h : GlobsOk X (l ++ m)) : GlobsOk X l ∧ GlobsOk X m :=
  ⟨fun p hp => h p (List.mem_append_left _ hp), fun p hp => h p (List.mem_append_right _ hp)⟩
structure Good (X : Cx) (j : Nat) : Prop where
  nd : X.N.Nodup
  calm : X.calm = true
  room : Room j X.A
  gu : X.A.guards = some []
  blt : ∀ x ∈ bltNames, X.mg x = none
theorem Good.u {X : Cx} {j : Nat} (h : Good X j) : X.A.units + 100 < cLine := by have := h.room.un; omega
theorem Good.blk {X : Cx} {j : Nat} (h : Good X j) (s : Shared) (H : Hp) (scope : Scope) (cenv : Env) (fp : List Addr) : Good (X.blk s H scope cenv fp) j := ⟨h.nd, h.calm, h.room, h.gu, h.blt⟩
/-! ### what chk says of the text -/
theorem chk_star {sc : Scope} {N : List Str} {c : Pm.CE} {e : Expr} (h : chkE sc N c e = true) : ∀ v p, e ≠ .Starred v p := by
  rintro v p rfl
  cases c <;> exact absurd h Bool.false_ne_true
theorem star_cons {e : Expr} {es : List Expr} {env : Env} (h : ∀ v p, e ≠ .Starred v p) : starEach (e :: es) env = (false, eval e env) :: starEach es env := by
  cases e <;> first | rfl | exact absurd rfl (h _ _)
theorem chk_ix {sc : Scope} {N : List Str} {c : Pm.CE} {e : Expr} (h : chkE sc N c e = true) : PlainIx e := by
  cases e with
  | Slice l u s p => cases c <;> exact absurd h Bool.false_ne_true
  | _ => exact fun _ _ => rfl
theorem chkA_any {sc : Scope} {N : List Str} {pos : Pos} {env : Env} : ∀ {cs : List Pm.CE} {es : List Expr}, chkA sc N cs es = true → (backTo pos (starEach es env)).any (·.1) = false
  | [], [], _ => rfl
  | [], _ :: _, h => absurd h Bool.false_ne_true
  | _ :: _, [], h => absurd h Bool.false_ne_true
  | c :: cs, e :: es, h => by
    have h : (vl c && chkE sc N c e && chkA sc N cs es) = true := h
    simp only [Bool.and_eq_true] at h
    rw [star_cons (chk_star h.1.2)]
    exact chkA_any h.2
theorem vis_of {sc : Scope} {x : Str} (h : visB sc x = true) : Vis sc x := by
  unfold visB at h
  split at h
  · exact .inl ‹_›
  · exact .inr (.inl ‹_›)
  · exact .inr (.inr ‹_›)
  · cases h
theorem loc_of {sc : Scope} {x : Str} (h : locB sc x = true) : Loc sc x := by
  unfold locB at h
  split at h
  · exact .inl ‹_›
  · exact .inr ‹_›
  · cases h
theorem gl_of {X : Cx} {x : Str} (h : gloB X.env.scope x = true) : Gl X x := eq_of_beq h
theorem dbg_of {x : Str} (h : noDbg x = true) : (x == ("__debug__" : Str)) = false ∧ (x == ("__classdict__" : Str)) = false := by
  unfold noDbg at h
  simp only [Bool.and_eq_true, Bool.not_eq_true'] at h
  exact h
theorem lit_ok {X : Cx} {g : G} {sl : List SV} {d : D} {c : Const} {k : Nat} {pos : Pos} (h : cstB d c = true) : PE X (.Constant c k pos) (LE X.K g (ev (.lit d) sl) sl) := by
  cases d <;> cases c <;> first | exact absurd h Bool.false_ne_true | skip
  · exact PE.imp pe_non fun σ H Q q => LE.lit q (fun _ => rfl) fun _ => .non
  · rename_i b c
    obtain rfl : b = c := eq_of_beq h
    exact PE.imp pe_bl fun σ H Q q => LE.lit q (fun _ => rfl) fun _ => .bl _
  · rename_i i j
    obtain rfl : i = j := eq_of_beq h
    exact PE.imp pe_int fun σ H Q q => LE.lit q (fun _ => rfl) fun _ => .int _
  · rename_i x y
    obtain rfl : x = y := eq_of_beq h
    exact PE.imp pe_str fun σ H Q q => LE.lit q (fun _ => rfl) fun _ => .str _
/-- the operator of a comparison -/
theorem cop_ok {X : Cx} {j : Nat} {g : G} {o : COp} {p : CmpOp} {r : Expr} (G : Good X j) (h : copB o p r = true) (hN : ∀ b, o ≠ .isn ∧ o ≠ .notn ∧ o ≠ .isb b ∧ o ≠ .notb b) :
    OpR X (compareOp p) (rC X.K g (cmpD o)) ∧ behindInMarks p r = false := by
  have u := G.u
  have hs : ∀ q : CmpOp, setB r = false → behindInMarks q r = false := fun q hs => by
    cases r <;> first | rfl | exact absurd hs Bool.noConfusion
  cases o <;> cases p <;> first | exact absurd h Bool.false_ne_true | skip
  · exact ⟨op_eqG (by omega), nomark _⟩
  · exact ⟨op_neG (by omega), nomark _⟩
  · exact ⟨op_ordG op_lt, nomark _⟩
  · exact ⟨op_ordG op_le, nomark _⟩
  · exact ⟨op_ordG op_gt, nomark _⟩
  · exact ⟨op_ordG op_ge, nomark _⟩
  · have h : (!setB r) = true := h
    exact ⟨op_inG (by omega), hs _ (by simpa using h)⟩
  · have h : (!setB r) = true := h
    exact ⟨op_notInG (by omega), hs _ (by simpa using h)⟩
  · exact absurd rfl (hN true).1
  · exact absurd rfl (hN true).2.1
  · exact absurd rfl (hN _).2.2.1
  · exact absurd rfl (hN _).2.2.2
/-- x is None .. -/
def rNone (K : PySem.W.Frag) (g : G) (f : D → D → Option Bool) : R2 := fun x y H Q => ∃ F ss dx dy b, At K g F ss H ∧ RD K F H x dx ∧ RD K F H y dy ∧ f dx dy = some b ∧ Kt K g F ss H (bl b) Q
theorem op_isnG {X : Cx} {g : G} : OpR X (compareOp .Is) (fun x y H Q => ∃ F ss dx b, At X.K g F ss H ∧ RD X.K F H x dx ∧ y = .non ∧ cmpD .isn dx .none = some b ∧ Kt X.K g F ss H (bl b) Q) := by
  intro pins s σ H x y v u Q I rx ry ⟨F, ss, dx, b, a, hx, hy, e, k⟩
  cases e
  exact op_isN pins s σ H x y v u Q I rx ry ⟨hy, by rw [isNone_of hx]; exact k.val a (.bl _)⟩
theorem op_notnG {X : Cx} {g : G} : OpR X (compareOp .IsNot) (fun x y H Q => ∃ F ss dx b, At X.K g F ss H ∧ RD X.K F H x dx ∧ y = .non ∧ cmpD .notn dx .none = some b ∧ Kt X.K g F ss H (bl b) Q) := by
  intro pins s σ H x y v u Q I rx ry ⟨F, ss, dx, b, a, hx, hy, e, k⟩
  cases e
  exact op_notN pins s σ H x y v u Q I rx ry ⟨hy, by rw [isNone_of hx]; exact k.val a (.bl _)⟩
/-- every comparison by its literal right side -/
theorem cop2_ok {X : Cx} {j : Nat} {g : G} {o : COp} {p : CmpOp} {r : Expr} (G : Good X j) (h : copB o p r = true) :
    behindInMarks p r = false ∧ OpR X (compareOp p) (fun x y H Q => ∃ F ss dx dy b, At X.K g F ss H ∧ RD X.K F H x dx ∧ RD X.K F H y dy ∧ ((noneB r = true → y = .non) ∧ (∀ c, boolB c r = true → y = .bl c)) ∧ cmpD o dx dy = some b ∧ Kt X.K g F ss H (bl b) Q) := by
  cases o with
  | isn =>
    cases p <;> first | exact absurd h Bool.false_ne_true | skip
    exact ⟨nomark _, fun pins s σ H x y v u Q I rx ry ⟨F, ss, dx, dy, b, a, hx, hy, z, e, k⟩ => op_isnG (g := g) pins s σ H x y v u Q I rx ry ⟨F, ss, dx, b, a, hx, z.1 h, e, k⟩⟩
  | notn =>
    cases p <;> first | exact absurd h Bool.false_ne_true | skip
    exact ⟨nomark _, fun pins s σ H x y v u Q I rx ry ⟨F, ss, dx, dy, b, a, hx, hy, z, e, k⟩ => op_notnG (g := g) pins s σ H x y v u Q I rx ry ⟨F, ss, dx, b, a, hx, z.1 h, e, k⟩⟩
  | isb c =>
    cases p <;> first | exact absurd h Bool.false_ne_true | skip
    refine ⟨nomark _, fun pins s σ H x y v u Q I rx ry ⟨F, ss, dx, dy, b, a, hx, hy, z, e, k⟩ => ?_⟩
    cases dx <;> first | (cases e; done) | skip
    rename_i b'
    obtain rfl := hx.bool
    obtain rfl := z.2 c h
    cases e
    exact op_isBl pins s σ H _ _ v u Q I rx ry ⟨_, _, rfl, rfl, by rw [← Bool.beq_eq_decide_eq]; exact k.val a (.bl _)⟩
  | notb c =>
    cases p <;> first | exact absurd h Bool.false_ne_true | skip
    refine ⟨nomark _, fun pins s σ H x y v u Q I rx ry ⟨F, ss, dx, dy, b, a, hx, hy, z, e, k⟩ => ?_⟩
    cases dx <;> first | (cases e; done) | skip
    rename_i b'
    obtain rfl := hx.bool
    obtain rfl := z.2 c h
    cases e
    exact op_notBl pins s σ H _ _ v u Q I rx ry ⟨_, _, rfl, rfl, by rw [← Bool.beq_eq_decide_eq]; exact k.val a (.bl _)⟩
  | _ =>
    obtain ⟨h1, h2⟩ := cop_ok (g := g) G h (fun b => ⟨by simp, by simp, by simp, by simp⟩)
    exact ⟨h2, fun pins s σ H x y v u Q I rx ry ⟨F, ss, dx, dy, b, a, hx, hy, _, e, k⟩ => h1 pins s σ H x y v u Q I rx ry ⟨F, ss, dx, dy, b, a, hx, hy, e, k⟩⟩
end Pm
namespace Pm
open PySem PySem.Spec PyProof.Rows L2
def rCx (K : PySem.W.Frag) (g : G) (o : COp) (r : Expr) : R2 := fun x y H Q => ∃ F ss dx dy b, At K g F ss H ∧ RD K F H x dx ∧ RD K F H y dy ∧ ((noneB r = true → y = .non) ∧ (∀ c, boolB c r = true → y = .bl c)) ∧ cmpD o dx dy = some b ∧ Kt K g F ss H (bl b) Q
def LitOf (r : Expr) (m : SS → O R) : Prop := ∀ ss rb s, m ss = some (rb, s) → (noneB r = true → rb = .v .none) ∧ ∀ c, boolB c r = true → rb = .v (.bool c)
section
variable {K : PySem.W.Frag} {g : G} {sl : List SV} {σ : L2.St} {H : Hp} {Q : VK} {ma mb mc m : SS → O R} {r r' : Expr}
theorem LitOf.use {F : Addr → Prop} {H0 : Hp} {ss s : SS} {rb : R} {y : V} (h : LitOf r mb) (e : mb ss = some (rb, s)) (hy : RR K g F H0 H rb y) : (noneB r = true → y = .non) ∧ (∀ c, boolB c r = true → y = .bl c) := by
  obtain ⟨h1, h2⟩ := h _ _ _ e
  refine ⟨fun z => ?_, fun c z => ?_⟩
  · rw [h1 z] at hy
    have hy : FD K F H y .none := hy
    cases hy; rfl
  · rw [h2 c z] at hy
    have hy : FD K F H y (.bool c) := hy
    cases hy; rfl
theorem LE.cmpx {o : COp} (hm : ∀ ss, m ss = (toD (ma ss)).bind fun p => (toD (mb p.2)).bind fun q => (cmpD o p.1 q.1).map fun r => (bl r, q.2)) (hl : LitOf r mb) (h : LE K g m sl σ H Q) :
    tOp (rCx K g o r) (LE K g ma sl) (LE K g mb sl) σ H Q := by
  obtain ⟨F, ss, r0, ss', e, rp, k⟩ := h
  rw [hm] at e
  obtain ⟨⟨da, s1⟩, e1, e⟩ := bind_of e
  obtain ⟨⟨db, s2⟩, e2, e⟩ := bind_of e
  obtain ⟨r', e3, e4⟩ := map_of e
  cases e4
  obtain ⟨ra, ea, e1⟩ := O.f_of e1
  obtain ⟨rb, eb, e2⟩ := O.f_of e2
  exact ⟨F, ss, ra, s1, ea, rp, fun x H1 F1 g1 p1 h1 => ⟨F1, s1, rb, _, eb, p1, fun y H2 F2 g2 p2 h2 =>
    ⟨F2, _, da, db, r', p2.at, (h1.keep g2 p1.fC g1).rd e1, h2.rd e2, hl.use eb h2, e3, fun z H3 F3 g3 s3 h3 => k z H3 F3 (g1.trans (g2.trans g3)) (p2.step g3 s3) (h3.early (g1.trans g2))⟩⟩⟩
theorem LE.chainx {o o' : COp} (h : LE K g m sl σ H Q) (hl : LitOf r mb) (hl' : LitOf r' mc) (hm : ∀ ss, m ss = (toD (ma ss)).bind fun p => (toD (mb p.2)).bind fun q => (cmpD o p.1 q.1).bind fun r =>
      if r then (toD (mc q.2)).bind fun t => (cmpD o' q.1 t.1).map fun r => (Pm.bl r, t.2) else some (Pm.bl false, q.2)) :
    tChain (rCx K g o r) (rCx K g o' r') (LE K g ma sl) (LE K g mb sl) (LE K g mc sl) σ H Q := by
  obtain ⟨F, ss, r0, ss', e, rp, k⟩ := h
  rw [hm] at e
  obtain ⟨⟨da, s1⟩, e1, e⟩ := bind_of e
  obtain ⟨⟨db, s2⟩, e2, e⟩ := bind_of e
  obtain ⟨c, e3, e⟩ := bind_of e
  obtain ⟨ra, ea, e1⟩ := O.f_of e1
  obtain ⟨rb, eb, e2⟩ := O.f_of e2
  refine ⟨F, ss, ra, s1, ea, rp, fun x H1 F1 g1 p1 h1 => ⟨F1, s1, rb, _, eb, p1, fun y H2 F2 g2 p2 h2 =>
    ⟨F2, _, da, db, c, p2.at, (h1.keep g2 p1.fC g1).rd e1, h2.rd e2, hl.use eb h2, e3, fun z H3 F3 g3 s3 h3 => ⟨c, h3.bl, ?_⟩⟩⟩⟩
  have p3 := p2.step g3 s3
  have h2' := h2.keep g3 p2.fC g2
  cases c with
  | false =>
    rw [if_neg Bool.false_ne_true] at e ⊢
    cases e
    exact k _ H3 F3 (g1.trans (g2.trans g3)) p3 (FD.bl false)
  | true =>
    rw [if_pos rfl] at e ⊢
    obtain ⟨⟨dc, s4⟩, e4, e⟩ := bind_of e
    obtain ⟨r', e5, e6⟩ := map_of e
    cases e6
    obtain ⟨rc, ec, e4⟩ := O.f_of e4
    exact ⟨F3, s2, rc, _, ec, p3, fun w H4 F4 g4 p4 h4 => ⟨F4, _, db, dc, r', p4.at, (h2'.keep g4 p3.fC (g2.trans g3)).rd e2, h4.rd e4, hl'.use ec h4, e5, fun u H5 F5 g5 s5 h5 =>
      k u H5 F5 (g1.trans (g2.trans (g3.trans (g4.trans g5)))) (p4.step g5 s5) (h5.early (g1.trans (g2.trans (g3.trans g4))))⟩⟩
/-- a test that is a value, here a comparison -/
theorem LT.test {t : TE} (ht : ∀ Q, LE K g m sl σ H Q → t σ H Q) {Qb : Bool → Hp → Prop} (h : LT K g (fun ss => toB (m ss)) sl σ H Qb) : tTest t σ H Qb := by
  obtain ⟨F, ss, r, ss', e, rp, k⟩ := h
  obtain ⟨ra, ea, e1⟩ := O.f_of e
  obtain rfl := asB_of e1
  exact ht _ ⟨F, ss, _, _, ea, rp, fun x H1 F1 g1 p1 h1 => ⟨r, h1.bl, k H1 F1 g1 p1⟩⟩
end
theorem lit_of {sc : Scope} {N : List Str} {c : Pm.CE} {r : Expr} {sl : List SV} (h : chkE sc N c r = true) : LitOf r (ev c sl) := by
  intro ss rb s e
  have key : ∀ d k pos, r = .Constant d k pos → ∃ x, c = .lit x ∧ cstB x d = true := by
    rintro d k pos rfl
    cases c <;> first | exact absurd h Bool.false_ne_true | exact ⟨_, rfl, h⟩
  refine ⟨fun z => ?_, fun b z => ?_⟩
  · cases r with
    | Constant d k pos =>
      obtain ⟨x, rfl, hx⟩ := key d k pos rfl
      cases d <;> first | exact absurd z Bool.false_ne_true | skip
      cases x <;> first | exact absurd hx Bool.false_ne_true | skip
      cases e; rfl
    | _ => exact absurd z Bool.false_ne_true
  · cases r with
    | Constant d k pos =>
      obtain ⟨x, rfl, hx⟩ := key d k pos rfl
      cases d <;> first | exact absurd z Bool.false_ne_true | skip
      cases x <;> first | exact absurd hx Bool.false_ne_true | skip
      cases e
      rw [show b = _ from eq_of_beq z, show _ = _ from eq_of_beq hx]
    | _ => exact absurd z Bool.false_ne_true
theorem nb_add {x y : D} {r : R} (e : addD x y = some r) : isBo r = false := by unfold addD at e; split at e <;> (try split at e) <;> cases e <;> rfl
theorem nb_sub {x y : D} {r : R} (e : subD x y = some r) : isBo r = false := by unfold subD at e; split at e <;> (try split at e) <;> cases e <;> rfl
theorem nb_mul {x y : D} {r : R} (e : mulD x y = some r) : isBo r = false := by unfold mulD at e; split at e <;> (try split at e) <;> cases e <;> rfl
theorem nb_fdiv {x y : D} {r : R} (e : fdivD x y = some r) : isBo r = false := by unfold fdivD at e; split at e <;> (try split at e) <;> cases e <;> rfl
theorem nb_mod {x y : D} {r : R} (e : modD x y = some r) : isBo r = false := by unfold modD at e; split at e <;> (try split at e) <;> cases e <;> rfl
theorem nb_pow {x y : D} {r : R} (e : powD x y = some r) : isBo r = false := by unfold powD at e; split at e <;> (try split at e) <;> cases e <;> rfl
theorem nb_bin {o : BOp} {x y : D} {r : R} (e : binD o x y = some r) : isBo r = false := by
  cases o
  · exact nb_add e
  · exact nb_sub e
  · exact nb_mul e
  · exact nb_fdiv e
  · exact nb_mod e
  · exact nb_pow e
theorem nb_sli {x y z : D} {r : R} (e : sliD x y z = some r) : isBo r = false := by
  unfold sliD at e
  split at e
  · obtain ⟨a, _, rfl⟩ := map_of e; rfl
  · obtain ⟨a, _, rfl⟩ := map_of e; rfl
  · cases e
theorem nb_rev {x : D} {r : R} (e : revD x = some r) : isBo r = false := by unfold revD at e; split at e <;> cases e <;> rfl
theorem nb_neg {x : D} {r : R} (e : negD x = some r) : isBo r = false := by unfold negD at e; split at e <;> cases e <;> rfl
theorem nb_me {m : Me} {x : D} {xs : List D} {r : R} (e : meD m x xs = some r) : isBo r = false := by
  unfold meD at e
  split at e
  · split at e
    · obtain ⟨a, _, rfl⟩ := map_of e; rfl
    · cases e
  · split at e <;> cases e
    rfl
  · cases e
theorem nb_bi {f : Bi} {xs : List D} {r : R} (e : biD f xs = some r) : isBo r = false := by
  cases f
  all_goals first
    | (have e : (none : Option R) = some r := e; cases e; done)
    | (have e : lenD xs = some r := e; unfold lenD at e; split at e <;> cases e <;> rfl)
    | (have e : intD xs = some r := e; unfold intD at e; split at e <;> cases e <;> rfl)
    | (have e : absD xs = some r := e; unfold absD at e; split at e <;> cases e <;> rfl)
    | (have e : max2D xs = some r := e; unfold max2D at e; split at e <;> cases e <;> rfl)
    | (have e : min2D xs = some r := e; unfold min2D at e; split at e <;> cases e <;> rfl)
    | (have e : max1D xs = some r := e; unfold max1D at e; split at e <;> (try split at e) <;> cases e <;> rfl)
    | (have e : min1D xs = some r := e; unfold min1D at e; split at e <;> (try split at e) <;> cases e <;> rfl)
    | (have e : sumD xs = some r := e; unfold sumD at e; split at e <;> first | (obtain ⟨a, _, rfl⟩ := map_of e; rfl) | cases e)
    | (have e : allD xs = some r := e; unfold allD at e; split at e <;> first | (obtain ⟨a, _, rfl⟩ := map_of e; rfl) | cases e)
    | (have e : anyD xs = some r := e; unfold anyD at e; split at e <;> first | (obtain ⟨a, _, rfl⟩ := map_of e; rfl) | cases e)
    | (have e : listD xs = some r := e; unfold listD at e; split at e <;> first | (obtain ⟨a, _, rfl⟩ := map_of e; rfl) | cases e)
    | (have e : tupleD xs = some r := e; unfold tupleD at e; split at e <;> first | (obtain ⟨a, _, rfl⟩ := map_of e; rfl) | cases e)
    | (have e : sortedD xs = some r := e; unfold sortedD at e; split at e <;> first | (cases e; done) | (obtain ⟨a, _, e⟩ := bind_of e; split at e <;> cases e <;> rfl))
    | (have e : reprD xs = some r := e; unfold reprD at e; split at e <;> (try split at e) <;> cases e <;> rfl)
    | (have e : isTD _ xs = some r := e; unfold isTD at e; split at e <;> cases e <;> rfl)
/-- what is no name and no choice gives no list of the frame's own -/
theorem not_bo {c : Pm.CE} (hv : noBo c = true) {sl : List SV} {ss s : SS} {r : R} (e : ev c sl ss = some (r, s)) : isBo r = false := by
  cases c with
  | loc i => cases hv
  | ife a b c => cases hv
  | lit d => cases e; rfl
  | glo x d => cases e; rfl
  | bin o a b => obtain ⟨p, _, e⟩ := bind_of e; obtain ⟨q, _, e⟩ := bind_of e; obtain ⟨t, e1, e2⟩ := map_of e; cases e2; exact nb_bin e1
  | neg a => obtain ⟨d, _, e⟩ := O.f_of e; exact nb_neg e
  | not a => obtain ⟨p, _, e⟩ := bind_of e; cases e; rfl
  | and a b => obtain ⟨p, _, e⟩ := bind_of e; (split at e <;> first | (cases e; rfl) | (obtain ⟨q, _, e⟩ := bind_of e; cases e; rfl))
  | or a b => obtain ⟨p, _, e⟩ := bind_of e; (split at e <;> first | (cases e; rfl) | (obtain ⟨q, _, e⟩ := bind_of e; cases e; rfl))
  | cmp o a b => obtain ⟨p, _, e⟩ := bind_of e; obtain ⟨q, _, e⟩ := bind_of e; obtain ⟨t, e1, e2⟩ := map_of e; cases e2; rfl
  | cmp2 o p a b c =>
    obtain ⟨p, _, e⟩ := bind_of e; obtain ⟨q, _, e⟩ := bind_of e; obtain ⟨t, _, e⟩ := bind_of e
    split at e
    · obtain ⟨q, _, e⟩ := bind_of e; obtain ⟨t, e1, e2⟩ := map_of e; cases e2; rfl
    · cases e; rfl
  | tup es => obtain ⟨p, _, e⟩ := bind_of e; cases e; rfl
  | lst es => obtain ⟨p, _, e⟩ := bind_of e; cases e; rfl
  | star a => obtain ⟨p, _, e⟩ := bind_of e; cases e; rfl
  | lc a b c d => obtain ⟨p, _, e⟩ := bind_of e; obtain ⟨q, _, e⟩ := bind_of e; split at e <;> cases e; rfl
  | rg1 a => obtain ⟨d, _, e⟩ := O.f_of e; unfold rg1D at e; split at e <;> (try split at e) <;> cases e <;> rfl
  | rg2 a b => obtain ⟨p, _, e⟩ := bind_of e; obtain ⟨q, _, e⟩ := bind_of e; obtain ⟨t, e1, e2⟩ := map_of e; cases e2; unfold rg2D at e1; split at e1 <;> (try split at e1) <;> cases e1 <;> rfl
  | rg3 a b c => cases e
  | dof q a =>
    obtain ⟨d, _, e⟩ := O.f_of e
    unfold dofD at e
    split at e <;> try cases e
    obtain ⟨ks, _, e⟩ := bind_of e
    split at e
    · cases e; rfl
    · obtain ⟨is, _, e⟩ := bind_of e
      split at e <;> cases e
      rfl
  | enm a => obtain ⟨d, _, e⟩ := O.f_of e; unfold enD at e; split at e <;> cases e <;> rfl
  | zip a b => obtain ⟨p, _, e⟩ := bind_of e; obtain ⟨q, _, e⟩ := bind_of e; obtain ⟨t, e1, e2⟩ := map_of e; cases e2; obtain ⟨p, _, e3⟩ := bind_of e1; obtain ⟨t, e4, e2⟩ := map_of e3; cases e2; rfl
  | idx a i => obtain ⟨p, _, e⟩ := bind_of e; obtain ⟨q, _, e⟩ := bind_of e; obtain ⟨t, e1, e2⟩ := map_of e; cases e2; rfl
  | sli a b c => obtain ⟨p, _, e⟩ := bind_of e; obtain ⟨q, _, e⟩ := bind_of e; obtain ⟨q, _, e⟩ := bind_of e; obtain ⟨t, e1, e2⟩ := map_of e; cases e2; exact nb_sli e1
  | nop => cases e; rfl
  | rev a => obtain ⟨d, _, e⟩ := O.f_of e; exact nb_rev e
  | bi f es => obtain ⟨d, _, e⟩ := O.f_of e; exact nb_bi e
  | met m o es => obtain ⟨p, _, e⟩ := bind_of e; obtain ⟨q, _, e⟩ := bind_of e; obtain ⟨t, e1, e2⟩ := map_of e; cases e2; exact nb_me e1
  | call x f es =>
    obtain ⟨p, _, e⟩ := bind_of e
    obtain ⟨as, _, e⟩ := bind_of e
    obtain ⟨q, _, e⟩ := bind_of e
    split at e <;> cases e
    rename_i h
    cases r <;> first | rfl | (cases h.1)
  | sget k i => (have e : (match isSrc sl i with | true => some (R.v (.int (ss.get k)), ss) | false => none) = some (r, s) := e); split at e <;> cases e; rfl
  | slen i => (have e : (match isSrc sl i with | true => some (R.v (.int ss.cells.length), ss) | false => none) = some (r, s) := e); split at e <;> cases e; rfl
  | newk => cases e; rfl
  | newt => cases e; rfl
  | dhas b k i =>
    obtain ⟨kd, _, e⟩ := O.f_of (show (toD (ev k sl ss)).f (dhasD b sl i) = some (r, s) from e)
    obtain ⟨q, _, e⟩ := bind_of e
    obtain ⟨t, e1, rfl⟩ := map_of e
    rfl
  | dget i k =>
    obtain ⟨kd, _, e⟩ := O.f_of (show (toD (ev k sl ss)).f (dgetD sl i) = some (r, s) from e)
    obtain ⟨q, _, e⟩ := bind_of e
    obtain ⟨t, _, e⟩ := bind_of e
    obtain ⟨t, e1, rfl⟩ := map_of e
    rfl
  | dget2 i k d =>
    obtain ⟨p, _, e⟩ := bind_of (show (toD (ev k sl ss)).bind (fun p => (toE (ev d sl p.2)).bind fun q => (dget2D sl i p.1 q.1).map fun r => (r, q.2)) = some (r, s) from e)
    obtain ⟨q, _, e⟩ := bind_of e
    obtain ⟨t, e1, e2⟩ := map_of e
    cases e2
    obtain ⟨q, _, e⟩ := bind_of e1
    obtain ⟨t, e1, rfl⟩ := map_of e
    rfl
end Pm
namespace Pm
open PySem PySem.Spec PyProof.Rows L2
section
variable {K : PySem.W.Frag} {g : G} {F : Addr → Prop} {sl : List SV} {σ : L2.St} {H : Hp} {Q : VK}
theorem kvs_val {F : Addr → Prop} {H : Hp} (k : L2.Key) : ∀ {vvs : List (L2.Key × V)} {kvs : List (L2.Key × D)}, KVs K F H vvs kvs → (∃ d v, kGet kvs k = some d ∧ valV vvs k = some v ∧ FD K F H v d) ∨ (kGet kvs k = none ∧ valV vvs k = none)
  | _, _, .nil => .inr ⟨rfl, rfl⟩
  | _, _, .cons (a := p) (b := q) h t => by
    obtain ⟨h1, h2⟩ := h
    by_cases e : p.1 = k
    · refine .inl ⟨q.2, p.2, ?_, valV_pos e, h2⟩
      unfold kGet
      rw [List.find?_cons, decide_eq_true (h1 ▸ e)]
      rfl
    · have ih := kvs_val k t
      have e2 : ¬ q.1 = k := fun z => e (h1.trans z)
      rw [valV_neg e]
      unfold kGet at ih ⊢
      rw [List.find?_cons, decide_eq_false e2]
      exact ih
theorem kvs_any {F : Addr → Prop} {H : Hp} (k : L2.Key) : ∀ {vvs : List (L2.Key × V)} {kvs : List (L2.Key × D)}, KVs K F H vvs kvs → (vvs.any fun p => decide (p.1 = k)) = kvs.any fun p => decide (p.1 = k)
  | _, _, .nil => rfl
  | _, _, .cons h t => by rw [List.any_cons, List.any_cons, kvs_any k t, h.1]
theorem kvs_map {F : Addr → Prop} {H : Hp} (k : L2.Key) {v : V} {d : D} (hd : FD K F H v d) : ∀ {vvs : List (L2.Key × V)} {kvs : List (L2.Key × D)}, KVs K F H vvs kvs → KVs K F H (vvs.map fun p => if p.1 = k then (p.1, v) else p) (kvs.map fun p => if p.1 = k then (p.1, d) else p)
  | _, _, .nil => .nil
  | _, _, .cons (a := p) (b := q) h t => by
    rw [List.map_cons, List.map_cons]
    refine .cons ?_ (kvs_map k hd t)
    by_cases e : p.1 = k
    · rw [if_pos e, if_pos (h.1 ▸ e)]; exact ⟨h.1, hd⟩
    · rw [if_neg e, if_neg (fun z => e (h.1.trans z))]; exact h
theorem kvs_put {F : Addr → Prop} {H : Hp} (k : L2.Key) {v : V} {d : D} (hd : FD K F H v d) {vvs : List (L2.Key × V)} {kvs : List (L2.Key × D)} (h : KVs K F H vvs kvs) : KVs K F H (putK vvs k v) (kPut kvs k d) := by
  unfold putK kPut
  rw [kvs_any k h]
  split
  · exact kvs_map k hd h
  · exact Paired.snoc h ⟨rfl, hd⟩
theorem keyOf_rd {F : Addr → Prop} {H : Hp} {x : V} {d : D} {k : L2.Key} (h : RD K F H x d) (e : keyOf d = some k) : x = kV k := by
  cases d with
  | int i => cases e; exact h.int
  | str z => cases e; exact h.str
  | _ => cases e
theorem dkAt_of {i : Nat} {kvs : List (L2.Key × D)} (e : dkAt sl i = some kvs) : sl[i]? = some (.dk kvs) := by
  unfold dkAt at e
  split at e
  · cases e; assumption
  · cases e
theorem Rp.dkSlot {ss : SS} {i : Nat} {kvs : List (L2.Key × D)} (r : Rp K g F ss sl σ H) (e : dkAt sl i = some kvs) : ∃ a vvs, σ[i]? = some (some (.ref a)) ∧ H a = some (.dK vvs) ∧ KVs K F H vvs kvs := by
  obtain ⟨x, e1, a, vvs, rfl, h1, h2, h3⟩ := r.slot i _ (dkAt_of e)
  exact ⟨a, vvs, e1, h1, h2⟩
theorem LE.dget {i : Nat} {k : Pm.CE} (h : LE K g (ev (.dget i k) sl) sl σ H Q) : tDGet (tVar i) (LE K g (ev k sl) sl) σ H Q := by
  obtain ⟨F, ss, r, s', e, rp, kq⟩ := h
  obtain ⟨kd, e1, e2⟩ := O.f_of (show (toD (ev k sl ss)).f (dgetD sl i) = some (r, s') from e)
  obtain ⟨kvs, e3, e2⟩ := bind_of e2
  obtain ⟨key, e4, e2⟩ := bind_of e2
  obtain ⟨d, e5, rfl⟩ := map_of e2
  obtain ⟨ra, e6, e7⟩ := O.f_of e1
  obtain ⟨a, _, ea, _, _⟩ := rp.dkSlot e3
  refine ⟨_, ea, F, ss, ra, _, e6, rp, fun y H1 F1 g1 p1 h1 => ?_⟩
  obtain ⟨a', vvs, ea', ha, hk⟩ := p1.dkSlot e3
  rw [ea] at ea'
  cases ea'
  obtain rfl := keyOf_rd (h1.rd e7) e4
  rcases kvs_val key hk with ⟨d', v, q1, q2, q3⟩ | ⟨q1, _⟩
  · rw [e5] at q1
    cases q1
    exact ⟨a, v, rfl, by rw [← q2]; exact DGet.k ha, kq v H1 F1 g1 p1 q3⟩
  · rw [e5] at q1; cases q1
theorem LE.dhas {b : Bool} {i : Nat} {k : Pm.CE} (h : LE K g (ev (.dhas b k i) sl) sl σ H Q) : (if b = true then tDIn else tDNotIn) (LE K g (ev k sl) sl) (tVar i) σ H Q := by
  obtain ⟨F, ss, r, s', e, rp, kq⟩ := h
  obtain ⟨kd, e1, e2⟩ := O.f_of (show (toD (ev k sl ss)).f (dhasD b sl i) = some (r, s') from e)
  obtain ⟨kvs, e3, e2⟩ := bind_of e2
  obtain ⟨key, e4, rfl⟩ := map_of e2
  obtain ⟨ra, e6, e7⟩ := O.f_of e1
  have main : ∀ y H1 F1, Gr g F F1 H H1 → Rp K g F1 s' sl σ H1 → RR K g F1 H H1 ra y → tVar i σ H1 fun x H2 => ∃ a o, x = .ref a ∧ DGet H2 a y o ∧ Q (.bl (o.isSome == b)) H2 := fun y H1 F1 g1 p1 h1 => by
    obtain ⟨a, vvs, ea, ha, hk⟩ := p1.dkSlot e3
    obtain rfl := keyOf_rd (h1.rd e7) e4
    refine ⟨_, ea, a, _, rfl, DGet.k ha, ?_⟩
    have e8 : (valV vvs key).isSome = (kGet kvs key).isSome := by
      rcases kvs_val key hk with ⟨d', v, q1, q2, q3⟩ | ⟨q1, q2⟩
      · rw [q1, q2]; rfl
      · rw [q1, q2]; rfl
    rw [e8]
    exact kq _ H1 F1 g1 p1 (FD.bl _)
  cases b
  · refine ⟨F, ss, ra, _, e6, rp, fun y H1 F1 g1 p1 h1 => ?_⟩
    obtain ⟨x, ex, a, o, q1, q2, q3⟩ := main y H1 F1 g1 p1 h1
    exact ⟨x, ex, a, o, q1, q2, by cases o <;> exact q3⟩
  · refine ⟨F, ss, ra, _, e6, rp, fun y H1 F1 g1 p1 h1 => ?_⟩
    obtain ⟨x, ex, a, o, q1, q2, q3⟩ := main y H1 F1 g1 p1 h1
    exact ⟨x, ex, a, o, q1, q2, by cases o <;> exact q3⟩
theorem LE.dget2 {i : Nat} {k d : Pm.CE} (h : LE K g (ev (.dget2 i k d) sl) sl σ H Q) : tDGet2 (tVar i) (LE K g (ev k sl) sl) (LE K g (ev d sl) sl) σ H Q := by
  obtain ⟨F, ss, r, s', e, rp, kq⟩ := h
  obtain ⟨⟨kd, s1⟩, e1, e⟩ := bind_of (show (toD (ev k sl ss)).bind (fun p => (toE (ev d sl p.2)).bind fun q => (dget2D sl i p.1 q.1).map fun r => (r, q.2)) = some (r, s') from e)
  obtain ⟨⟨dd, s2⟩, e2, e⟩ := bind_of e
  obtain ⟨r', e3, e4⟩ := map_of e
  cases e4
  obtain ⟨kvs, e5, e3⟩ := bind_of e3
  obtain ⟨key, e6, rfl⟩ := map_of e3
  obtain ⟨ra, e7, e8⟩ := O.f_of e1
  obtain ⟨rb, e9, e10⟩ := O.f_of e2
  obtain ⟨a, vvs0, ea, ha0, _⟩ := rp.dkSlot e5
  refine ⟨_, ea, a, rfl, .inl ⟨_, .inl ha0⟩, F, ss, ra, _, e7, rp, fun y H1 F1 g1 p1 h1 => ⟨F1, s1, rb, _, e9, p1, fun z H2 F2 g2 p2 h2 => ?_⟩⟩
  obtain ⟨F3, g3, f3⟩ := h2.esc e10 g2
  have p3 := p1.step g3 p2.src
  obtain ⟨a', vvs, ea', ha, hk⟩ := p3.dkSlot e5
  rw [ea] at ea'
  cases ea'
  obtain rfl := keyOf_rd (h1.rd e8) e6
  refine ⟨_, DGet.k ha, kq _ H2 F3 (g1.trans g3) p3 ?_⟩
  rcases kvs_val key hk with ⟨d', v, q1, q2, q3⟩ | ⟨q1, q2⟩
  · rw [q1, q2]; exact q3
  · rw [q1, q2]; exact f3
theorem LE.newk (h : LE K g (ev .newk sl) sl σ H Q) : tDNewK σ H Q := by
  obtain ⟨F, ss, r, s', e, rp, kq⟩ := h
  cases e
  intro p hp
  have g1 := rp.grUpd (o := .dK []) hp
  exact kq _ _ F g1 (rp.step g1 (rp.src.upd (rp.srcNe hp).1 (rp.srcNe hp).2)) ⟨p, [], rfl, upd_same, .nil, hp⟩
theorem LE.met {m : Me} {o : Pm.CE} {es : List Pm.CE} (h : LE K g (ev (.met m o es) sl) sl σ H Q) : tBM K "list" (rMt K g m) (LE K g (ev o sl) sl) (LA K g (evs es sl) sl) σ H Q := by
  obtain ⟨F, ss, r, s', e, rp, kq⟩ := h
  obtain ⟨⟨od, s1⟩, e1, e⟩ := bind_of (show (toD (ev o sl ss)).bind (fun p => (toDs (evs es sl p.2)).bind fun q => (meD m p.1 q.1).map fun r => (r, q.2)) = some (r, s') from e)
  obtain ⟨⟨ds, s2⟩, e2, e⟩ := bind_of e
  obtain ⟨r', e3, e4⟩ := map_of e
  cases e4
  obtain ⟨ra, e7, e8⟩ := O.f_of e1
  obtain ⟨rs, e9, e10⟩ := O.f_of e2
  obtain ⟨_, xs, rfl⟩ := meD_list e3
  refine ⟨F, ss, ra, s1, e7, rp, fun x H1 F1 g1 p1 h1 => ?_⟩
  obtain ⟨p, vs, ex, sp, fp⟩ := (h1.rd e8).lst
  refine ⟨by rw [ex]; exact .inl ⟨rfl, vs, .of sp⟩, F1, s1, rs, _, e9, p1, fun zs H2 F2 g2 p2 h2 => ?_⟩
  exact ⟨F2, _, xs, ds, r, p2.at, (h1.keep g2 p1.fC g1).rd e8, h2.rds e10, e3, fun z H3 F3 g3 s3 h3 => kq z H3 F3 (g1.trans (g2.trans g3)) (p2.step g3 s3) (h3.early (g1.trans g2))⟩
end
end Pm
namespace Pm
open PySem PySem.Spec PyProof.Rows L2
section
variable {K : PySem.W.Frag} {g : G} {F : Addr → Prop} {sl : List SV} {σ : L2.St} {H : Hp} {Q : VK}
theorem put_keys {vvs : List (L2.Key × V)} {k : L2.Key} {v : V} : (putK vvs k v).map (·.1) = kAdd (vvs.map (·.1)) k := by
  unfold putK kAdd
  have e : ((vvs.map (·.1)).any fun q => decide (q = k)) = vvs.any fun p => decide (p.1 = k) := by rw [List.any_map]; rfl
  rw [e]
  split
  · rw [List.map_map]
    refine List.map_congr_left fun p _ => ?_
    show (if p.1 = k then (p.1, v) else p).1 = p.1
    split <;> rfl
  · rw [List.map_append]; rfl
theorem merge_keys : ∀ (kvs acc : List (L2.Key × V)), (mergeK acc kvs).map (·.1) = (kvs.map (·.1)).foldl kAdd (acc.map (·.1))
  | [], acc => rfl
  | kv :: kvs, acc => by
    show (mergeK (putK acc kv.1 kv.2) kvs).map (·.1) = _
    rw [merge_keys kvs, put_keys]
    rfl
theorem pairs_at : ∀ {vs : List V} {ds : List D} {ks : List L2.Key}, FDs K F H vs ds → pairKs ds = some ks → ∃ (ps : List Addr) (kvs : List (L2.Key × V)), vs = ps.map V.ref ∧ Paired (fun p kv => SqT K H p [kV kv.1, kv.2]) ps kvs ∧ kvs.map (·.1) = ks
  | _, _, _, .nil, e => by cases e; exact ⟨[], [], rfl, .nil, rfl⟩
  | _, _, _, .cons (d := d) r t, e => by
    unfold pairKs at e
    split at e
    · rename_i heq; cases heq
    · rename_i k z rest heq
      cases heq
      obtain ⟨kk, e1, e2⟩ := bind_of e
      obtain ⟨ks', e3, rfl⟩ := map_of e2
      obtain ⟨ps, kvs, rfl, hp, hk⟩ := pairs_at t e3
      cases r with
      | @tup a vs _ s f =>
        cases f with
        | cons f1 f2 =>
          cases f2 with
          | cons f3 f4 =>
            cases f4
            rename_i v1 v2
            have ek : v1 = kV kk := keyOf_rd (.inl f1) e1
            subst ek
            exact ⟨a :: ps, (kk, v2) :: kvs, rfl, .cons s hp, by rw [List.map_cons, hk]⟩
    · cases e
theorem keysI_map : ∀ {ks : List L2.Key} {is : List Int}, keysI ks = some is → ks = is.map Sum.inl
  | [], _, e => by cases e; rfl
  | .inl i :: ks, _, e => by
    obtain ⟨is, e1, rfl⟩ := map_of (show (keysI ks).map (i :: ·) = some _ from e)
    rw [keysI_map e1]; rfl
  | .inr x :: ks, _, e => by cases e
abbrev rDictP (K : PySem.W.Frag) : List V → Hp → VK → Prop := fun xs H Q => ∃ (a : Addr) (ps : List Addr) (kvs : List (Key × V)), xs = [.ref a] ∧ SqL K H a (ps.map V.ref) ∧ Paired (fun p kv => SqT K H p [kV kv.1, kv.2]) ps kvs ∧
    ∀ p, H p = none → Q (.ref p) (upd H p (.dK (mergeK [] kvs)))
abbrev rSortDI : List V → Hp → VK → Prop := fun xs H Q => ∃ (a : Addr) (kvs : List (Key × V)) (ks : List Int), xs = [.ref a] ∧ Rd H a (.dK kvs) ∧ kvs.map (·.1) = ks.map Sum.inl ∧ ks.length < 64 ∧
    ∀ (ys : List Int) (p : Addr), ys.Perm ks → ys.Pairwise (· ≤ ·) → H p = none → Q (.ref p) (upd H p (.lst (ys.map V.int)))
theorem fds_ints (K : PySem.W.Frag) (F : Addr → Prop) (H : Hp) : ∀ is : List Int, FDs K F H (is.map V.int) (is.map .int)
  | [] => .nil
  | i :: is => .cons (.int i) (fds_ints K F H is)
theorem LE.dofS {a : Pm.CE} (h : LE K g (ev (.dof true a) sl) sl σ H Q) : tCB rSortDI (tCons (tCB (rDictP K) (tCons (LE K g (ev a sl) sl) tNil)) tNil) σ H Q := by
  obtain ⟨F, ss, r, s', e, rp, k⟩ := h
  obtain ⟨d, e1, e2⟩ := O.f_of (show (toD (ev a sl ss)).f (dofD true) = some (r, s') from e)
  obtain ⟨ra, e3, e4⟩ := O.f_of e1
  refine ⟨F, ss, ra, _, e3, rp, fun x H1 F1 g1 p1 h1 => ?_⟩
  unfold dofD at e2
  split at e2
  · obtain ⟨ks, e5, e6⟩ := bind_of e2
    obtain ⟨is, e7, e8⟩ := bind_of e6
    split at e8 <;> cases e8
    rename_i h64
    obtain ⟨p, vs, rfl, sp, fp⟩ := (h1.rd e4).lst
    obtain ⟨ps, kvs, rfl, hp, hk⟩ := pairs_at fp e5
    refine ⟨p, ps, kvs, rfl, .of sp, hp, fun q hq => ?_⟩
    have g2 := p1.grUpd (o := .dK (mergeK [] kvs)) hq
    have p2 := p1.step g2 (p1.src.upd (p1.srcNe hq).1 (p1.srcNe hq).2)
    refine ⟨q, mergeK [] kvs, is, rfl, .inl upd_same, ?_, h64, fun ys p' pm so hn => ?_⟩
    · rw [merge_keys, hk]; exact keysI_map e7
    · have ey : ys = sortI is := sorted_eq (pm.trans (sortI_perm is).symm) so (sortI_sorted is)
      subst ey
      exact Kt.lst p2.at (fun z H3 F3 g3 s3 h3 => k z H3 F3 ((g1.trans g2).trans g3) (p2.step g3 s3) (h3.early (g1.trans g2))) (fds_ints _ _ _ _) hn
  · cases e2
theorem LE.dofL {a : Pm.CE} (h : LE K g (ev (.dof false a) sl) sl σ H Q) : tCB (fun xs H Q => ∃ (a : Addr) (kvs : List (Key × V)), xs = [V.ref a] ∧ H a = some (.dK kvs) ∧ Q (.int kvs.length) H) (tCons (tCB (rDictP K) (tCons (LE K g (ev a sl) sl) tNil)) tNil) σ H Q := by
  obtain ⟨F, ss, r, s', e, rp, k⟩ := h
  obtain ⟨d, e1, e2⟩ := O.f_of (show (toD (ev a sl ss)).f (dofD false) = some (r, s') from e)
  obtain ⟨ra, e3, e4⟩ := O.f_of e1
  refine ⟨F, ss, ra, _, e3, rp, fun x H1 F1 g1 p1 h1 => ?_⟩
  unfold dofD at e2
  split at e2
  · obtain ⟨ks, e5, e6⟩ := bind_of e2
    cases e6
    obtain ⟨p, vs, rfl, sp, fp⟩ := (h1.rd e4).lst
    obtain ⟨ps, kvs, rfl, hp, hk⟩ := pairs_at fp e5
    refine ⟨p, ps, kvs, rfl, .of sp, hp, fun q hq => ?_⟩
    have g2 := p1.grUpd (o := .dK (mergeK [] kvs)) hq
    have p2 := p1.step g2 (p1.src.upd (p1.srcNe hq).1 (p1.srcNe hq).2)
    have hl : (mergeK [] kvs).length = (kSet ks).length := by
      rw [← List.length_map (f := (·.1)), merge_keys, hk]; rfl
    refine ⟨q, mergeK [] kvs, rfl, upd_same, ?_⟩
    rw [hl]
    exact Kt.val p2.at (fun z H3 F3 g3 s3 h3 => k z H3 F3 ((g1.trans g2).trans g3) (p2.step g3 s3) (h3.early (g1.trans g2))) (.int _)
  · cases e2
end
end Pm
namespace Pm
open PySem PySem.Spec PyProof.Rows L2
theorem FDs.rg {K : PySem.W.Frag} {F : Addr → Prop} {H : Hp} (a b : Int) : FDs K F H (rgV a b) (rangeD a b) := by
  unfold rgV rangeD
  generalize (b - a).toNat = n
  have : ∀ l : List Nat, FDs K F H (l.map fun i => V.int (a + (i : Nat))) (l.map fun (i : Nat) => PyData.int (a + i)) := by
    intro l
    induction l with
    | nil => exact .nil
    | cons i l ih => exact .cons (.int _) ih
  exact this _
section
variable {K : PySem.W.Frag} {g : G} {sl : List SV} {σ : L2.St} {H : Hp} {Q : VK}
theorem ev_star1 {r : Pm.CE} {ss s : SS} {ds : List D} (e : toX (evs [.star r] sl ss) = some (ds, s)) : ∃ xs, toI (ev r sl ss) = some (xs, s) ∧ ds = xs ∧ ds.length ≤ SL := by
  obtain ⟨⟨a, s1⟩, e1, e2⟩ := bind_of e
  obtain ⟨rs, e3, e4⟩ := O.f_of e1
  obtain ⟨⟨r1, s2⟩, e5, e6⟩ := bind_of e3
  obtain ⟨⟨rest, s3⟩, e7, e8⟩ := bind_of e6
  cases e7
  cases e8
  obtain ⟨⟨xs, s4⟩, e9, e10⟩ := bind_of e5
  cases e10
  have e4 : some (xs ++ []) = some a := e4
  cases e4
  have e2 : (if (xs ++ []).length ≤ SL then some (xs ++ [], _) else none) = some (ds, s) := e2
  split at e2 <;> cases e2
  rename_i h
  rw [List.append_nil] at h ⊢
  exact ⟨xs, e9, rfl, h⟩
theorem ev_rg1 {a : Pm.CE} {ss s : SS} {xs : List D} (e : toI (ev (.rg1 a) sl ss) = some (xs, s)) : ∃ i, toD (ev a sl ss) = some (.int i, s) ∧ xs = rangeD 0 i ∧ -4611686018427387904 ≤ i ∧ i ≤ 16777216 := by
  obtain ⟨r, e1, e2⟩ := O.f_of e
  obtain ⟨d, e3, e4⟩ := O.f_of e1
  unfold rg1D at e4
  split at e4
  · split at e4 <;> cases e4
    rename_i h
    cases e2
    exact ⟨_, e3, rfl, h⟩
  · cases e4
theorem ev_rg2 {a b : Pm.CE} {ss s : SS} {xs : List D} (e : toI (ev (.rg2 a b) sl ss) = some (xs, s)) : ∃ i j s1, toD (ev a sl ss) = some (.int i, s1) ∧ toD (ev b sl s1) = some (.int j, s) ∧ xs = rangeD i j ∧ (-4611686018427387904 ≤ i ∧ i < 4611686018427387904 ∧ -4611686018427387904 ≤ j ∧ j < 4611686018427387904) ∧ j - i ≤ 16777216 := by
  obtain ⟨r, e1, e2⟩ := O.f_of e
  obtain ⟨⟨da, s1⟩, e3, e4⟩ := bind_of e1
  obtain ⟨⟨db, s2⟩, e5, e6⟩ := bind_of e4
  obtain ⟨r', e7, e8⟩ := map_of e6
  cases e8
  have e7 : rg2D da db = some r := e7
  unfold rg2D at e7
  split at e7
  · split at e7 <;> cases e7
    rename_i h
    cases e2
    exact ⟨_, _, _, e3, e5, rfl, h⟩
  · cases e7
theorem rgok {a b : Int} {xs : List D} (e : xs = rangeD a b) (h : xs.length ≤ SL) (h1 : -4611686018427387904 ≤ a) (h2 : a < 4611686018427387904) (h3 : -4611686018427387904 ≤ b) (h4 : b < 4611686018427387904) : RgOk a b := by
  subst e
  rw [rangeD_len] at h
  exact ⟨by omega, by omega, by omega, by omega, h⟩
/-- a range among a display's items -/
def tStarRg (te : L2.St → Hp → (Int → Int → Hp → Prop) → Prop) (t : TA) : TA := fun σ H Q => te σ H fun a b H1 => RgOk a b ∧ t σ H1 fun vs H2 => Q (rgV a b ++ vs) H2
theorem pa_starRg {X : Cx} {e : Expr} {es : List Expr} {p : Pos} {te : L2.St → Hp → (Int → Int → Hp → Prop) → Prop} {t : TA} (hc : X.calm = true) (he : PRg X e te) (hr : PA X es t) : PA X (.Starred e p :: es) (tStarRg te t) := by
  refine ⟨fun pos pins s σ H Q I h => ?_⟩
  refine PySem.W.items_star (thn (he pins s σ H _ I h) fun v s1 ⟨r, a, b, t1, u, w, H1, ev, hrg, I1, ok, q⟩ => ?_) rfl
  subst ev
  obtain ⟨b1, b2, b3, b4, b5⟩ := ok
  have hT : s1.TypeIs (.ref r) "range" := ⟨_, hrg, rfl⟩
  unfold PySem.W.StarOf notIterableAtAll
  refine wpAny_bind (wpAny_specialOf hT PySem.F.slot_range_iter.lookup (wpAny_pure ⟨rfl, ?_⟩))
  refine collect_range (I1.ok.hd hc) hrg (small_one b1 b2 b3 b4) (rangeSize_nat a b) b5 fun h' tk acc hk hi => ?_
  have I2 : Inv X pins σ H1 { s1 with heap := h', toks := tk } := I1.kept hk
  exact thn (hr.run pos pins _ σ H1 _ I2 q) fun ws s3 ⟨vs, H3, I3, r3, q3⟩ => ⟨rgV a b ++ vs, H3, I3, (vals_rg hi).append r3, q3⟩
theorem LX.starRg1 {a : Pm.CE} {ms m' : SS → O (List R)} {Qs : List V → Hp → Prop} (h : LX K g (fun ss => (m' ss).f dispR) sl σ H Qs) (hm : ∀ ss, m' ss = ((toI (ev (.rg1 a) sl ss)).bind fun p => some (R.st p.1, p.2)).bind fun p => (ms p.2).bind fun q => some (p.1 :: q.1, q.2)) :
    tStarRg (tRg1 (LE K g (ev a sl) sl)) (LX K g (fun ss => (ms ss).f dispR) sl) σ H Qs := by
  obtain ⟨F, ss, r, ss', e, rp, k⟩ := h
  obtain ⟨rr, e, e0⟩ := O.f_of e
  rw [hm] at e
  obtain ⟨⟨ra, s1⟩, e1, e⟩ := bind_of e
  obtain ⟨⟨rs, s2⟩, e2, e⟩ := bind_of e
  cases e
  obtain ⟨⟨is, s3⟩, e8, e9⟩ := bind_of e1
  cases e9
  obtain ⟨i, e4, rfl, b1, b2⟩ := ev_rg1 e8
  obtain ⟨rb, e10, e11⟩ := O.f_of e4
  obtain ⟨ds, e6, e7⟩ := map_of (show (dispR rs).map (rangeD 0 i ++ ·) = some r from e0)
  cases e7
  refine ⟨F, ss, rb, _, e10, rp, fun x H1 F1 g1 p1 h1 => ⟨i, (h1.rd e11).int, ⟨by omega, by omega, by omega, by omega, by omega⟩, ?_⟩⟩
  exact ⟨F1, _, ds, _, by show (ms _).f dispR = _; rw [e2]; show (dispR rs).map _ = _; rw [e6]; rfl, p1, fun xs H2 F2 g2 p2 h2 => k _ H2 F2 (g1.trans g2) p2 ((FDs.rg 0 i).append h2)⟩
theorem LX.starRg2 {a b : Pm.CE} {ms m' : SS → O (List R)} {Qs : List V → Hp → Prop} (h : LX K g (fun ss => (m' ss).f dispR) sl σ H Qs) (hm : ∀ ss, m' ss = ((toI (ev (.rg2 a b) sl ss)).bind fun p => some (R.st p.1, p.2)).bind fun p => (ms p.2).bind fun q => some (p.1 :: q.1, q.2)) :
    tStarRg (tRg2 (LE K g (ev a sl) sl) (LE K g (ev b sl) sl)) (LX K g (fun ss => (ms ss).f dispR) sl) σ H Qs := by
  obtain ⟨F, ss, r, ss', e, rp, k⟩ := h
  obtain ⟨rr, e, e0⟩ := O.f_of e
  rw [hm] at e
  obtain ⟨⟨ra, s1⟩, e1, e⟩ := bind_of e
  obtain ⟨⟨rs, s2⟩, e2, e⟩ := bind_of e
  cases e
  obtain ⟨⟨is, s3⟩, e8, e9⟩ := bind_of e1
  cases e9
  obtain ⟨i, j, s4, e4, e4', rfl, ⟨b1, b2, b3, b4⟩, b5⟩ := ev_rg2 e8
  obtain ⟨rb, e10, e11⟩ := O.f_of e4
  obtain ⟨rc, e12, e13⟩ := O.f_of e4'
  obtain ⟨ds, e6, e7⟩ := map_of (show (dispR rs).map (rangeD i j ++ ·) = some r from e0)
  cases e7
  refine ⟨F, ss, rb, _, e10, rp, fun x H1 F1 g1 p1 h1 => ⟨F1, _, rc, _, e12, p1, fun y H2 F2 g2 p2 h2 => ⟨i, j, (h1.rd e11).int, (h2.rd e13).int, ⟨by omega, by omega, by omega, by omega, by omega⟩, ?_⟩⟩⟩
  exact ⟨F2, _, ds, _, by show (ms _).f dispR = _; rw [e2]; show (dispR rs).map _ = _; rw [e6]; rfl, p2, fun xs H3 F3 g3 p3 h3 => k _ H3 F3 (g1.trans (g2.trans g3)) p3 ((FDs.rg i j).append h3)⟩
def mkR (b : Bool) (xs : List D) : R := if b then .v (.tuple xs) else .fr xs
def mkO (b : Bool) (xs : List V) : HO := if b then .tup xs else .lst xs
theorem Kt.mk {F : Addr → Prop} {ss : SS} {b : Bool} {xs : List D} {vs : List V} {p : Addr} (a : At K g F ss H) (k : Kt K g F ss H (mkR b xs) Q) (h : FDs K F H vs xs) (hp : H p = none) : Q (.ref p) (upd H p (mkO b vs)) := by
  cases b
  · exact k.lst a h hp
  · exact k.tup a h hp
/-- tuple(range(..)) and list(range(..)) -/
theorem LE.rgX {a : Pm.CE} (b : Bool) (h : LE K g (fun ss => (toX (evs [.star (.rg1 a)] sl ss)).bind fun p => some (mkR b p.1, p.2)) sl σ H Q) :
    tRg1 (LE K g (ev a sl) sl) σ H fun x y H1 => RgOk x y ∧ ∀ q, H1 q = none → Q (.ref q) (upd H1 q (mkO b (rgV x y))) := by
  obtain ⟨F, ss, r, s1, e, rp, k⟩ := h
  obtain ⟨⟨ds, s⟩, e1, e2⟩ := bind_of e
  cases e2
  obtain ⟨xs, e3, rfl, hl⟩ := ev_star1 e1
  obtain ⟨i, e4, e5, b1, b2⟩ := ev_rg1 e3
  obtain ⟨ra, e6, e7⟩ := O.f_of e4
  refine ⟨F, ss, ra, _, e6, rp, fun x H1 F1 g1 p1 h1 => ⟨i, (h1.rd e7).int, rgok e5 hl (by omega) (by omega) (by omega) (by omega), fun q hq => ?_⟩⟩
  subst e5
  have kt : Kt K g F1 _ H1 (mkR b (rangeD 0 i)) Q := fun z H2 F2 g2 s2 h2 => k z H2 F2 (g1.trans g2) (p1.step g2 s2) (h2.early g1)
  exact Kt.mk p1.at kt (.rg _ _) hq
theorem LE.rgX2 {a c : Pm.CE} (b : Bool) (h : LE K g (fun ss => (toX (evs [.star (.rg2 a c)] sl ss)).bind fun p => some (mkR b p.1, p.2)) sl σ H Q) :
    tRg2 (LE K g (ev a sl) sl) (LE K g (ev c sl) sl) σ H fun x y H1 => RgOk x y ∧ ∀ q, H1 q = none → Q (.ref q) (upd H1 q (mkO b (rgV x y))) := by
  obtain ⟨F, ss, r, s1, e, rp, k⟩ := h
  obtain ⟨⟨ds, s⟩, e1, e2⟩ := bind_of e
  cases e2
  obtain ⟨xs, e3, rfl, hl⟩ := ev_star1 e1
  obtain ⟨i, j, s2, e4, e4', e5, ⟨b1, b2, b3, b4⟩, b5⟩ := ev_rg2 e3
  obtain ⟨ra, e6, e7⟩ := O.f_of e4
  obtain ⟨rb, e8, e9⟩ := O.f_of e4'
  refine ⟨F, ss, ra, _, e6, rp, fun x H1 F1 g1 p1 h1 => ⟨F1, _, rb, _, e8, p1, fun y H2 F2 g2 p2 h2 => ⟨i, j, (h1.rd e7).int, (h2.rd e9).int, rgok e5 hl (by omega) (by omega) (by omega) (by omega), fun q hq => ?_⟩⟩⟩
  subst e5
  have gg := g1.trans g2
  have kt : Kt K g F2 _ H2 (mkR b (rangeD i j)) Q := fun z H3 F3 g3 s3 h3 => k z H3 F3 (gg.trans g3) (p2.step g3 s3) (h3.early gg)
  exact Kt.mk p2.at kt (.rg _ _) hq
/-- a part of a slice -/
def LP (K : PySem.W.Frag) (g : G) (m : SS → O D) (sl : List SV) : TO := fun σ H Q => ∃ F ss d s, m ss = some (d, s) ∧ Rp K g F ss sl σ H ∧
  ∀ (o : Option Int) H' F', Gr g F F' H H' → Rp K g F' s sl σ H' → d = (match o with | none => .none | some i => .int i) → Q o H'
theorem PO.imp {X : Cx} {e : Option Expr} {t t' : TO} (h : PO X e t) (i : ∀ σ H Q, t' σ H Q → t σ H Q) : PO X e t' := ⟨fun pins s σ H Q I q => h.run pins s σ H Q I (i σ H Q q)⟩
theorem po_nop {X : Cx} {c : Pm.CE} (h : isNop c = true) : PO X none (LP X.K g (fun ss => toP c (ev c sl ss)) sl) := by
  cases c <;> first | exact absurd h Bool.false_ne_true | skip
  refine PO.imp po_none fun σ H Q q => ?_
  obtain ⟨F, ss, d, s, e, rp, k⟩ := q
  have e : some (PyData.none, ss) = some (d, s) := e
  cases e
  exact k none H F rp.gr rp rfl
theorem po_ex {X : Cx} {c : Pm.CE} {e : Expr} (h : isNop c = false) (he : PE X e (LE X.K g (ev c sl) sl)) : PO X (some e) (LP X.K g (fun ss => toP c (ev c sl ss)) sl) := by
  refine PO.imp (po_some he) fun σ H Q q => ?_
  obtain ⟨F, ss, d, s, e, rp, k⟩ := q
  have e : toP c (ev c sl ss) = some (d, s) := e
  unfold toP at e
  rw [h] at e
  obtain ⟨r, e1, e2⟩ := O.f_of e
  obtain ⟨i, e5, rfl⟩ : ∃ i, rd r = some (.int i) ∧ d = .int i := by
    unfold rdInt at e2
    split at e2
    · cases e2; exact ⟨_, by assumption, rfl⟩
    · cases e2
  exact ⟨F, ss, r, _, e1, rp, fun x H1 F1 g1 p1 h1 => ⟨_, (h1.rd e5).int, k (some _) H1 F1 g1 p1 rfl⟩⟩
def rSl (K : PySem.W.Frag) : V → Option Int → Option Int → Hp → VK → Prop := fun x lo hi H Q => rSlL K x lo hi H Q ∨ rSlA K x lo hi H Q
theorem FDs.cutV {F : Addr → Prop} {vs : List V} {ds ys : List D} {lo hi : Option Int} (h : FDs K F H vs ds) (e : cut ds (match lo with | none => .none | some i => .int i) (match hi with | none => .none | some i => .int i) = some ys) : FDs K F H (L2.cutV vs lo hi) ys := by
  have hl := h.length
  have key : ∀ (n d : Nat) (o : Option Int), sIx n d (match o with | none => .none | some i => .int i) = some (HT.sIx n d o) := fun n d o => by cases o <;> rfl
  unfold cut at e
  rw [key, key] at e
  cases e
  unfold L2.cutV
  rw [hl]
  exact (h.drop _).take _
theorem LE.sli {m ma : SS → O R} {ml mh : SS → O D} (h : LE K g m sl σ H Q) (hm : ∀ ss, m ss = (toD (ma ss)).bind fun p => (ml p.2).bind fun q => (mh q.2).bind fun t => (sliD p.1 q.1 t.1).map fun r => (r, t.2)) :
    tSl (rSl K) (LE K g ma sl) (LP K g ml sl) (LP K g mh sl) σ H Q := by
  obtain ⟨F, ss, r, ss', e, rp, k⟩ := h
  rw [hm] at e
  obtain ⟨⟨da, s1⟩, e1, e⟩ := bind_of e
  obtain ⟨⟨db, s2⟩, e2, e⟩ := bind_of e
  obtain ⟨⟨dc, s3⟩, e3, e⟩ := bind_of e
  obtain ⟨r', e4, e5⟩ := map_of e
  cases e5
  have e4 : sliD da db dc = some r := e4
  obtain ⟨ra, e6, e7⟩ := O.f_of e1
  refine ⟨F, ss, ra, s1, e6, rp, fun x H1 F1 g1 p1 h1 => ⟨F1, s1, db, s2, e2, p1, fun lo H2 F2 g2 p2 el => ⟨F2, s2, dc, _, e3, p2, fun hi H3 F3 g3 p3 eh => ?_⟩⟩⟩
  have gg := g1.trans (g2.trans g3)
  have h3 := ((h1.keep g2 p1.fC g1).keep g3 p2.fC (g1.trans g2)).rd e7
  have kt : Kt K g F3 _ H3 r Q := fun z H4 F4 g4 s4 h4 => k z H4 F4 (gg.trans g4) (p3.step g4 s4) (h4.early gg)
  subst el eh
  unfold sliD at e4
  split at e4
  · obtain ⟨ys, e8, rfl⟩ := map_of e4
    obtain ⟨p, vs, rfl, sp, fp⟩ := h3.lst
    exact .inl ⟨p, vs, rfl, .of sp, fun q hq => kt.lst p3.at (fp.cutV e8) hq⟩
  · obtain ⟨ys, e8, rfl⟩ := map_of e4
    obtain ⟨p, vs, rfl, sp, fp⟩ := h3.tup
    refine .inr ⟨p, vs, rfl, sp, fun z => ?_, fun z q hq => kt.tup p3.at (fp.cutV e8) hq⟩
    have e9 : L2.cutV vs lo hi = vs := by unfold L2.cutV; rw [z.1, z.2]; simp
    have f := fp.cutV e8
    rw [e9] at f
    exact kt.val p3.at (.tup sp f)
  · cases e4
end
section
variable {j : Nat} (g : G)
theorem isc {X : Cx} {scope : Scope} {cl : List (Str × Addr)} {C : Addr} {s : Shared} {H : Hp} {fp : List Addr} : (X.blk s H scope (compEnvC scope cl C X.env) fp).env.scope = relS scope X.env.scope := rfl
theorem bi_rule {X : Cx} (G : Good X j) (f : Bi) (hp : biPlain f = true) : (∃ id, bootBuiltins (biName f) = some (.builtin id) ∧ CallR X (.builtin id) (rAs X.K g (biD f))) ∨ (∃ T, bootBuiltins (biName f) = some (.type T) ∧ CallR X (.type T) (rAs X.K g (biD f))) := by
  have hc := G.calm
  cases f <;> first | exact absurd hp Bool.false_ne_true | skip
  · exact .inl ⟨"len", by decide +kernel, bi_len⟩
  · exact .inr ⟨"int", by decide +kernel, bi_int⟩
  · exact .inl ⟨"abs", by decide +kernel, bi_abs⟩
  · exact .inl ⟨"max", by decide +kernel, bi_max2 hc⟩
  · exact .inl ⟨"min", by decide +kernel, bi_min2 hc⟩
  · exact .inl ⟨"max", by decide +kernel, bi_max1 hc G.u⟩
  · exact .inl ⟨"min", by decide +kernel, bi_min1 hc⟩
  · exact .inl ⟨"sum", by decide +kernel, bi_sum hc⟩
  · exact .inl ⟨"all", by decide +kernel, bi_all hc⟩
  · exact .inl ⟨"any", by decide +kernel, bi_any hc⟩
  · exact .inr ⟨"list", by decide +kernel, bi_list⟩
  · exact .inr ⟨"tuple", by decide +kernel, bi_tuple⟩
  · exact .inl ⟨"sorted", by decide +kernel, bi_sorted G.u⟩
  · exact .inl ⟨"repr", by decide +kernel, bi_repr G.gu G.u⟩
theorem bi_free {X : Cx} (G : Good X j) (f : Bi) : biName f ∈ bltNames ∨ biName f = "?" := by
  cases f <;> first | (left; decide +kernel) | (right; rfl)
theorem blk_ok {N : List Str} {sc scope : Scope} {own : List (Str × Nat)} (h : blkB N sc scope own = true) : BlkOk N sc scope own := by
  unfold blkB at h
  simp only [Bool.and_eq_true] at h
  obtain ⟨⟨⟨⟨h1, h2⟩, h3⟩, h4⟩, h5⟩ := h
  refine ⟨eq_of_beq h1, fun y hy => eq_of_beq (List.all_eq_true.mp h2 y hy), fun p hp => eq_of_beq (List.all_eq_true.mp h3 p hp), fun y hy e => ?_, fun y hy e => ?_⟩
  · have := List.all_eq_true.mp h4 y hy
    simp only [e, Bool.or_eq_true, Bool.not_eq_true', beq_iff_eq] at this
    rcases this with (z | z) | z
    · exact absurd z (by decide)
    · exact .inl z
    · exact .inr z
  · have := List.all_eq_true.mp h5 y hy
    simp only [Bool.or_eq_true, Bool.not_eq_true', List.contains_iff_mem] at this
    rcases this with (z | z) | z
    · rcases e with e | e <;> simp [e] at z
    · exact .inl (by simpa using z)
    · exact .inr (by simpa using z)
mutual
theorem names_snd (N : List Str) : ∀ t : TGt, (t.names N).map (·.2) = t.slots
  | .one i => rfl
  | .tup ts => by show (TGt.namess N ts).map (·.2) = TGt.slotss ts; exact namess_snd N ts
theorem namess_snd (N : List Str) : ∀ ts : List TGt, (TGt.namess N ts).map (·.2) = TGt.slotss ts
  | [] => rfl
  | t :: ts => by show (t.names N ++ TGt.namess N ts).map (·.2) = t.slots ++ TGt.slotss ts; rw [List.map_append, names_snd N t, namess_snd N ts]
end
theorem as_cons {st : Str → Bool} {N : List Str} {t : TGt} {e : Expr} {es : List Expr} {env : Env} (h : chkT st N t e = true) : assignEach (e :: es) env = (false, assign e env) :: assignEach es env := by
  cases e <;> first | rfl | (cases t <;> exact absurd h Bool.false_ne_true)
theorem as_all {st : Str → Bool} {N : List Str} {env : Env} : ∀ {ts : List TGt} {es : List Expr}, chkTs st N ts es = true → (assignEach es env).length = ts.length ∧ (assignEach es env).findIdx? (·.1) = none
  | [], [], _ => ⟨rfl, rfl⟩
  | [], _ :: _, h => absurd h Bool.false_ne_true
  | _ :: _, [], h => absurd h Bool.false_ne_true
  | t :: ts, e :: es, h => by
    have h : (chkT st N t e && chkTs st N ts es) = true := h
    simp only [Bool.and_eq_true] at h
    obtain ⟨h1, h2⟩ := as_all (env := env) h.2
    rw [as_cons h.1]
    exact ⟨by rw [List.length_cons, List.length_cons, h1], by rw [List.findIdx?_cons, h2]; rfl⟩
mutual
theorem tg_ok {X : Cx} (G : Good X j) (st : Str → Bool) (hst : ∀ x, st x = true → Loc X.env.scope x ∧ (X.fn x = true ∨ X.env.scope.names.lookup x = some .local)) : ∀ (t : TGt) (e : Expr), chkT st X.N t e = true → PG X e (LG X.K g t)
  | .one i, e, h => by
    cases e with
    | Name x pos =>
      have h : (X.N[i]? == some x && st x) = true := h
      simp only [Bool.and_eq_true] at h
      exact PG.imp (pg_name G.nd (eq_of_beq h.1) (hst x h.2).1 (hst x h.2).2) fun v σ H Q q => LG.one q
    | _ => exact absurd h Bool.false_ne_true
  | .tup ts, e, h => by
    cases e with
    | Tuple es k pos =>
      have h : chkTs st X.N ts es = true := h
      exact PG.imp (pg_tup (n := ts.length) G.calm (tgs_ok G st hst ts es h) (as_all h).1 (as_all h).2) fun v σ H Q q => LG.tup q rfl
    | _ => exact absurd h Bool.false_ne_true
theorem tgs_ok {X : Cx} (G : Good X j) (st : Str → Bool) (hst : ∀ x, st x = true → Loc X.env.scope x ∧ (X.fn x = true ∨ X.env.scope.names.lookup x = some .local)) : ∀ (ts : List TGt) (es : List Expr), chkTs st X.N ts es = true → PGs X es (LGs X.K g ts)
  | [], [], _ => PGs.imp pgs_nil fun v σ H Q q => LGs.nil q
  | [], _ :: _, h => absurd h Bool.false_ne_true
  | _ :: _, [], h => absurd h Bool.false_ne_true
  | t :: ts, e :: es, h => by
    have h : (chkT st X.N t e && chkTs st X.N ts es) = true := h
    simp only [Bool.and_eq_true] at h
    exact PGs.imp (pgs_cons (tg_ok G st hst t e h.1) (tgs_ok G st hst ts es h.2) (by rw [as_cons h.1]; rfl)) fun v σ H Q q => LGs.cons q
end
end
end Pm
namespace Pm
open PySem PySem.Spec PyProof.Rows L2
variable {j : Nat} (g : G)
theorem st_of {X : Cx} {sc scope : Scope} {s : Shared} {H : Hp} {cenv : Env} {fp : List Addr} (h : ∀ y ∈ scope.names, scope.names.lookup y.1 = some y.2) (e : cenv.scope = relS scope sc) : ∀ x, locB scope x = true → Loc (X.blk s H scope cenv fp).env.scope x ∧ ((X.blk s H scope cenv fp).fn x = true ∨ (X.blk s H scope cenv fp).env.scope.names.lookup x = some .local) := by
  intro x hx
  show Loc cenv.scope x ∧ ((scope.names.lookup x == some .cell) = true ∨ cenv.scope.names.lookup x = some .local)
  rw [e]
  rcases loc_of hx with q | q
  · have z : (relS scope sc).names.lookup x = some .local := lookup_relS_keep (by decide) q
    exact ⟨.inl z, .inr z⟩
  · have z : (relS scope sc).names.lookup x = some .cell := lookup_relS_keep (by decide) q
    exact ⟨.inr z, .inl (by rw [q]; rfl)⟩
/-- an item -/
def rIxG (K : PySem.W.Frag) (g : G) : R2 := rB K g fun x y => (idxD x y).map .v
theorem ix_ok {X : Cx} : IxR X (rIxG X.K g) := by
  intro value slice pins s σ H x y v u Q I rx ry ⟨F, ss, dx, dy, r, a, hx, hy, e, k⟩ hs
  obtain ⟨d, e1, rfl⟩ := map_of e
  unfold idxD at e1
  split at e1
  · obtain ⟨i, e2, e3⟩ := bind_of e1
    obtain ⟨p, vs, rfl, sp, fp⟩ := hx.lst
    obtain rfl := hy.int
    obtain ⟨z, e4, hz⟩ := fp.get e3
    exact ix_list value slice pins s σ H _ _ v u Q I rx ry ⟨p, vs, _, z, rfl, rfl, .of sp, by unfold atI; rw [fp.length]; show (L2.ixN _ _).bind _ = _; rw [show L2.ixN _ _ = some i from e2]; exact e4, k.val a hz⟩ hs
  · obtain ⟨i, e2, e3⟩ := bind_of e1
    obtain ⟨p, vs, rfl, sp, fp⟩ := hx.tup
    obtain rfl := hy.int
    obtain ⟨z, e4, hz⟩ := fp.get e3
    exact ix_tup value slice pins s σ H _ _ v u Q I rx ry ⟨p, vs, _, z, rfl, rfl, sp, by unfold atI; rw [fp.length]; show (L2.ixN _ _).bind _ = _; rw [show L2.ixN _ _ = some i from e2]; exact e4, k.val a hz⟩ hs
  · cases e1
theorem sli_inv {sc : Scope} {N : List Str} {a lo hi : Pm.CE} {x : Expr} {l u s : Option Expr} {p p2 : Pos} (h : chkE sc N (.sli a lo hi) (.Subscript x (.Slice l u s p2) p) = true) :
    s.isNone = true ∧ vl a = true ∧ chkE sc N a x = true ∧ (match l with | none => isNop lo | some l => !isNop lo && vl lo && chkE sc N lo l) = true ∧ (match u with | none => isNop hi | some u => !isNop hi && vl hi && chkE sc N hi u) = true := by
  cases l <;> cases u
  all_goals
    unfold chkE at h
    simp only [Bool.and_eq_true] at h
    first | exact ⟨h.1.1.1.1, h.1.1.1.2, h.1.1.2, h.1.2, h.2⟩ | exact ⟨h.1.1.1.1, h.1.1.1.2, h.1.1.2, h.1.2, by simpa using h.2⟩ | exact ⟨h.1.1.1.1, h.1.1.1.2, h.1.1.2, by simpa using h.1.2, h.2⟩ | exact ⟨h.1.1.1.1, h.1.1.1.2, h.1.1.2, by simpa using h.1.2, by simpa using h.2⟩
theorem chkIs_inv {sc : Scope} {N : List Str} {T : String} {es : List Pm.CE} {args : List Expr} (h : chkIs sc N T es args = true) : ∃ c e t tp, es = [c] ∧ args = [e, .Name t tp] ∧ (t == (T : Str)) = true ∧ gloB sc t = true ∧ vl c = true ∧ chkE sc N c e = true := by
  unfold chkIs at h
  split at h
  · simp only [Bool.and_eq_true] at h
    exact ⟨_, _, _, _, rfl, rfl, h.1.1.1, h.1.1.2, h.1.2, h.2⟩
  · cases h
theorem lc_inv {sc : Scope} {N : List Str} {elt it : Pm.CE} {tg : TGt} {cond : List Pm.CE} {e : Expr} (h : chkE sc N (.lc elt tg it cond) e = true) : ∃ x t i ifs scope pos, e = .ListComp x [⟨t, i, ifs, 0⟩] scope pos ∧
    blkB N sc scope (tg.names N) = true ∧ chkT (fun x => locB scope x) N tg t = true ∧ (!enB it || tupB t) = true ∧ chkE sc N it i = true ∧ setB i = false ∧ vl elt = true ∧ chkE (relS scope sc) N elt x = true ∧ chkA (relS scope sc) N cond ifs = true ∧ ifs.length ≤ 1 := by
  cases e with
  | ListComp x gs scope pos =>
    match gs, h with
    | [⟨t, i, ifs, a⟩], h =>
      have h : ((a == 0) && blkB N sc scope (tg.names N) && chkT (fun x => locB scope x) N tg t && (!enB it || tupB t) && chkE sc N it i && !setB i && vl elt && chkE (relS scope sc) N elt x && chkA (relS scope sc) N cond ifs && decide (ifs.length ≤ 1)) = true := h
      rw [Bool.and_eq_true, Bool.and_eq_true, Bool.and_eq_true, Bool.and_eq_true, Bool.and_eq_true, Bool.and_eq_true, Bool.and_eq_true, Bool.and_eq_true, Bool.and_eq_true] at h
      obtain ⟨⟨⟨⟨⟨⟨⟨⟨⟨q0, q1⟩, q2⟩, q3⟩, q4⟩, q5⟩, q6⟩, q7⟩, q8⟩, q9⟩ := h
      obtain rfl : a = 0 := eq_of_beq q0
      exact ⟨x, t, i, ifs, scope, pos, rfl, q1, q2, q3, q4, by simpa using q5, q6, q7, q8, of_decide_eq_true q9⟩
    | [], h => exact absurd h Bool.false_ne_true
    | ⟨_, _, _, _⟩ :: _ :: _, h => exact absurd h Bool.false_ne_true
  | _ => exact absurd h Bool.false_ne_true
theorem PE.none {X : Cx} {e : Expr} {m : SS → O R} {sl : List SV} (h : ∀ ss, m ss = none) : PE X e (LE X.K g m sl) := ⟨fun pins s σ H Q I ⟨F, ss, r, s', e, _⟩ => by rw [h] at e; cases e⟩
theorem met_none {m : Me} {o : Pm.CE} {es : List Pm.CE} {sl : List SV} (h1 : m ≠ .index) (h2 : m ≠ .count) (ss : SS) : ev (.met m o es) sl ss = none := by
  show (toD (ev o sl ss)).bind (fun p => (toDs (evs es sl p.2)).bind fun q => (meD m p.1 q.1).map fun r => (r, q.2)) = none
  cases toD (ev o sl ss) with
  | none => rfl
  | some p =>
    show (toDs (evs es sl p.2)).bind _ = none
    cases toDs (evs es sl p.2) with
    | none => rfl
    | some q =>
      show (meD m p.1 q.1).map _ = none
      cases e : meD m p.1 q.1 with
      | none => rfl
      | some r => rcases (meD_list e).1 with rfl | rfl <;> contradiction
theorem base_of {o : Expr} {m : Str} {env : Env} (h : baseB o = true) : attributeBase o m env (eval o env) = eval o env := by
  unfold attributeBase
  split
  · exact absurd h Bool.false_ne_true
  · rfl
theorem dhas_inv {sc : Scope} {N : List Str} {b : Bool} {k : Pm.CE} {i : Nat} {e : Expr} (h : chkE sc N (.dhas b k i) e = true) : ∃ l p x np pos, e = .Compare l [p] [.Name x np] pos ∧ inB b p = true ∧ (N[i]? == some x) = true ∧ visB sc x = true ∧ noDbg x = true ∧ vl k = true ∧ chkE sc N k l = true := by
  unfold chkE at h
  split at h <;> first | (cases h; done) | (rename_i heq; cases heq; done) | (rename_i heq; cases heq)
  simp only [Bool.and_eq_true] at h
  exact ⟨_, _, _, _, _, rfl, h.1.1.1.1.1, h.1.1.1.1.2, h.1.1.1.2, h.1.1.2, h.1.2, h.2⟩
theorem dget_inv {sc : Scope} {N : List Str} {k : Pm.CE} {i : Nat} {e : Expr} (h : chkE sc N (.dget i k) e = true) : ∃ x np ke pos, e = .Subscript (.Name x np) ke pos ∧ (N[i]? == some x) = true ∧ visB sc x = true ∧ noDbg x = true ∧ vl k = true ∧ chkE sc N k ke = true := by
  unfold chkE at h
  split at h <;> first | (cases h; done) | (rename_i heq; cases heq; done) | (rename_i heq; cases heq)
  simp only [Bool.and_eq_true] at h
  exact ⟨_, _, _, _, rfl, h.1.1.1.1, h.1.1.1.2, h.1.1.2, h.1.2, h.2⟩
theorem dget2_inv {sc : Scope} {N : List Str} {k d : Pm.CE} {i : Nat} {e : Expr} (h : chkE sc N (.dget2 i k d) e = true) : ∃ x np m ap a b cp, e = .Call (.Attribute (.Name x np) m ap) [a, b] [] cp ∧ (N[i]? == some x) = true ∧ visB sc x = true ∧ noDbg x = true ∧ (m == "get") = true ∧ (ap.endLine == cp.line) = true ∧ vl k = true ∧ chkE sc N k a = true ∧ vl d = true ∧ chkE sc N d b = true := by
  unfold chkE at h
  split at h <;> first | (cases h; done) | (rename_i heq; cases heq; done) | (rename_i heq; cases heq)
  simp only [Bool.and_eq_true] at h
  obtain ⟨⟨⟨⟨⟨⟨⟨⟨a1, a2⟩, a3⟩, a4⟩, a5⟩, a6⟩, a7⟩, a8⟩, a9⟩ := h
  exact ⟨_, _, _, _, _, _, _, rfl, a1, a2, a3, a4, a5, a6, a7, a8, a9⟩
theorem dof_inv {sc : Scope} {N : List Str} {s : Bool} {a : Pm.CE} {e : Expr} (h : chkE sc N (.dof s a) e = true) : ∃ x p y q e' r t, e = .Call (.Name x p) [.Call (.Name y q) [e'] [] r] [] t ∧ (x == dofN s) = true ∧ gloB sc x = true ∧ (y == "dict") = true ∧ gloB sc y = true ∧ vl a = true ∧ chkE sc N a e' = true := by
  by_cases hq : ∃ x p y q e' r t, e = .Call (.Name x p) [.Call (.Name y q) [e'] [] r] [] t
  · obtain ⟨x, p, y, q, e', r, t, rfl⟩ := hq
    have h : ((x == dofN s && gloB sc x) && (y == "dict" && gloB sc y) && vl a && chkE sc N a e') = true := h
    simp only [Bool.and_eq_true] at h
    exact ⟨_, _, _, _, _, _, _, rfl, h.1.1.1.1, h.1.1.1.2, h.1.1.2.1, h.1.1.2.2, h.1.2, h.2⟩
  · exfalso
    unfold chkE at h
    split at h <;> first | (cases h; done) | (rename_i heq; cases heq; done) | (rename_i heq _; cases heq; done) | (rename_i heq; cases heq; exact hq ⟨_, _, _, _, _, _, _, rfl⟩) | skip
theorem newk_inv {sc : Scope} {N : List Str} {e : Expr} (h : chkE sc N .newk e = true) : ∃ pos, e = .Dict [] [] pos := by
  unfold chkE at h
  split at h <;> first | (cases h; done) | (rename_i heq; cases heq; done) | (rename_i heq; cases heq)
  exact ⟨_, rfl⟩
theorem nosl_of {sc : Scope} {N : List Str} {c : Pm.CE} {e : Expr} (h : chkE sc N c e = true) : NoSl e := by
  cases e with
  | Slice l u s p => cases c <;> exact absurd h Bool.false_ne_true
  | _ => exact fun _ _ => rfl
def spec : Pm.CE → Bool
  | .not _ | .and _ _ | .or _ _ | .cmp _ _ _ | .cmp2 _ _ _ _ _ | .ife _ _ _ | .dhas _ _ _ => true
  | _ => false
theorem val_of {sc : Scope} {N : List Str} {c : Pm.CE} {e : Expr} (hc : spec c = false) (h : chkE sc N c e = true) (env : Env) : ∀ whole, isTrue e env whole = (do let v ← whole; standAt e.pos; holding [v] (truthy v)) := by
  cases e with
  | UnaryOp p x pos =>
    cases c <;> first | exact absurd h Bool.false_ne_true | exact absurd hc Bool.noConfusion | skip
    have h : ((p == .USub) && _ && _) = true := h
    simp only [Bool.and_eq_true] at h
    obtain rfl : p = .USub := by cases p <;> first | rfl | exact absurd h.1.1 (by decide)
    intro _; rfl
  | BoolOp op vs pos => cases c <;> first | exact absurd h Bool.false_ne_true | exact absurd hc Bool.noConfusion
  | IfExp a b c' pos => cases c <;> first | exact absurd h Bool.false_ne_true | exact absurd hc Bool.noConfusion
  | Compare a b c' pos => cases c <;> first | exact absurd h Bool.false_ne_true | exact absurd hc Bool.noConfusion
  | _ => intro _; rfl
theorem PT.pw {X : Cx} {op : BoolOp} {vs : List Expr} {pos : Pos} {t : TT} (h : PT X (.BoolOp op vs pos) t) : PW X (.BoolOp op vs pos) t := ⟨fun whole pins s σ H Q I q => h.run pins s σ H Q I q⟩
theorem pt_ife {X : Cx} {c a b : Expr} {pos : Pos} {tc : TT} {ta tb : TT} (hc : PT X c tc) (ha : PT X a ta) (hb : PT X b tb) : PT X (.IfExp c a b pos) (fun σ H Q => tc σ H fun d H1 => if d = true then ta σ H1 Q else tb σ H1 Q) := by
  refine ⟨fun pins s σ H Q I h => ?_⟩
  rw [arm_isTrue_IfExp]
  refine wpAny_bind (thn (hc.run pins s σ H _ I h) fun d s1 ⟨H1, I1, q1⟩ => ?_)
  cases d with
  | true => exact ha.run pins s1 σ H1 Q I1 q1
  | false => exact hb.run pins s1 σ H1 Q I1 q1
theorem chkX_inv {sc : Scope} {N : List Str} {c : Pm.CE} {cs : List Pm.CE} {e : Expr} {es : List Expr} (h : chkX sc N (c :: cs) (e :: es) = true) :
    ((∃ c' e' p, c = .star c' ∧ e = .Starred e' p ∧ vl c' = true ∧ chkE sc N c' e' = true) ∨ (vl c = true ∧ chkE sc N c e = true) ∨
      (∃ a x q e' p, c = .star (.rg1 a) ∧ e = .Starred (.Call (.Name x (Prod.fst q : Pos)) [e'] [] (Prod.snd q : Pos)) p ∧ rangeB sc x = true ∧ vl a = true ∧ chkE sc N a e' = true) ∨
      (∃ a b x q e' f' p, c = .star (.rg2 a b) ∧ e = .Starred (.Call (.Name x (Prod.fst q : Pos)) [e', f'] [] (Prod.snd q : Pos)) p ∧ rangeB sc x = true ∧ vl a = true ∧ chkE sc N a e' = true ∧ vl b = true ∧ chkE sc N b f' = true)) ∧ chkX sc N cs es = true := by
  unfold chkX at h
  rw [Bool.and_eq_true] at h
  refine ⟨?_, h.2⟩
  have h1 := h.1
  split at h1
  · simp only [Bool.and_eq_true] at h1
    exact .inr (.inr (.inl ⟨_, _, (_, _), _, _, rfl, rfl, h1.1.1, h1.1.2, h1.2⟩))
  · simp only [Bool.and_eq_true] at h1
    exact .inr (.inr (.inr ⟨_, _, _, (_, _), _, _, _, rfl, rfl, h1.1.1.1.1, h1.1.1.1.2, h1.1.1.2, h1.1.2, h1.2⟩))
  · rw [Bool.and_eq_true] at h1
    exact .inl ⟨_, _, _, rfl, rfl, h1.1, h1.2⟩
  · rw [Bool.and_eq_true] at h1
    exact .inr (.inl h1)
theorem rX_inv {sc : Scope} {N : List Str} {cs : List Pm.CE} {f : Expr} {args : List Expr} {kws : List Keyword} {pos : Pos} (b : Bool) (h : chkE sc N (if b = true then .tup cs else .lst cs) (.Call f args kws pos) = true) :
    ∃ x np e, f = .Name x np ∧ args = [e] ∧ kws = [] ∧ x = (if b = true then "tuple" else "list" : Str) ∧ gloB sc x = true ∧ chkR sc N cs e = true := by
  cases b
  · replace h : chkE sc N (.lst cs) (.Call f args kws pos) = true := h
    unfold chkE at h
    split at h
    · rename_i heq
      cases heq
    · rename_i heq
      cases heq
      simp only [Bool.and_eq_true] at h
      obtain rfl := eq_of_beq h.1.1
      exact ⟨_, _, _, rfl, rfl, rfl, rfl, h.1.2, h.2⟩
    · cases h
  · replace h : chkE sc N (.tup cs) (.Call f args kws pos) = true := h
    unfold chkE at h
    split at h
    · rename_i heq
      cases heq
    · rename_i heq
      cases heq
      simp only [Bool.and_eq_true] at h
      obtain rfl := eq_of_beq h.1.1
      exact ⟨_, _, _, rfl, rfl, rfl, rfl, h.1.2, h.2⟩
    · cases h
theorem rR_inv {sc : Scope} {N : List Str} {cs : List Pm.CE} {e : Expr} (h : chkR sc N cs e = true) :
    (∃ a y q e', cs = [.star (.rg1 a)] ∧ e = .Call (.Name y (Prod.fst q : Pos)) [e'] [] (Prod.snd q : Pos) ∧ rangeB sc y = true ∧ vl a = true ∧ chkE sc N a e' = true) ∨
    (∃ a c y q e' f', cs = [.star (.rg2 a c)] ∧ e = .Call (.Name y (Prod.fst q : Pos)) [e', f'] [] (Prod.snd q : Pos) ∧ rangeB sc y = true ∧ vl a = true ∧ chkE sc N a e' = true ∧ vl c = true ∧ chkE sc N c f' = true) := by
  unfold chkR at h
  split at h
  · simp only [Bool.and_eq_true] at h
    exact .inl ⟨_, _, (_, _), _, rfl, rfl, h.1.1, h.1.2, h.2⟩
  · simp only [Bool.and_eq_true] at h
    exact .inr ⟨_, _, _, (_, _), _, _, rfl, rfl, h.1.1.1.1, h.1.1.1.2, h.1.1.2, h.1.2, h.2⟩
  · cases h
theorem it_inv {sc : Scope} {N : List Str} {c : Pm.CE} {e : Expr} (hv : ¬ vl c = true) (h : chkE sc N c e = true) :
    (∃ a y q e', c = .rg1 a ∧ e = .Call (.Name y (Prod.fst q : Pos)) [e'] [] (Prod.snd q : Pos) ∧ rangeB sc y = true ∧ vl a = true ∧ chkE sc N a e' = true) ∨
    (∃ a b y q e' f', c = .rg2 a b ∧ e = .Call (.Name y (Prod.fst q : Pos)) [e', f'] [] (Prod.snd q : Pos) ∧ rangeB sc y = true ∧ vl a = true ∧ chkE sc N a e' = true ∧ vl b = true ∧ chkE sc N b f' = true) ∨
    (∃ a q e', c = .enm a ∧ e = .Call (.Name "enumerate" (Prod.fst q : Pos)) [e'] [] (Prod.snd q : Pos) ∧ gloB sc "enumerate" = true ∧ vl a = true ∧ chkE sc N a e' = true) := by
  unfold chkE at h
  split at h <;> first | exact absurd rfl hv | (cases h; done) | skip
  · simp only [Bool.and_eq_true] at h
    exact .inl ⟨_, _, (_, _), _, rfl, rfl, h.1.1, h.1.2, h.2⟩
  · simp only [Bool.and_eq_true] at h
    exact .inr (.inl ⟨_, _, _, (_, _), _, _, rfl, rfl, h.1.1.1.1, h.1.1.1.2, h.1.1.2, h.1.2, h.2⟩)
  · simp only [Bool.and_eq_true] at h
    obtain rfl := eq_of_beq h.1.1.1
    exact .inr (.inr ⟨_, (_, _), _, rfl, rfl, h.1.1.2, h.1.2, h.2⟩)
section
variable {K : PySem.W.Frag} {g : G} {sl : List SV} {σ : L2.St} {H : Hp} {Q : VK}
theorem isSrc_of {i : Nat} (h : isSrc sl i = true) : sl[i]? = some .src := by
  unfold isSrc at h
  split at h
  · assumption
  · cases h
theorem Rp.srcAt {F : Addr → Prop} {ss : SS} {i : Nat} (r : Rp K g F ss sl σ H) (h : isSrc sl i = true) : σ[i]? = some (some (.ref g.A)) := by
  obtain ⟨x, e, h⟩ := r.slot i _ (isSrc_of h)
  rw [e, show x = _ from h]
theorem SrcOk.get {A C : Addr} {ss : SS} (s : SrcOk A C ss H) (k : SK) : DGet H A (.str k.name) (some (.int (ss.get k))) := by
  cases k
  · exact DGet.k (k := .inr "left") s.1
  · exact DGet.k (k := .inr "mixed") s.1
  · exact DGet.k (k := .inr "turn") s.1
theorem SrcOk.getC {A C : Addr} {ss : SS} (s : SrcOk A C ss H) : DGet H A (.str "cells") (some (.ref C)) := DGet.k (k := .inr "cells") s.1
theorem ev_sget {k : SK} {i : Nat} {ss s : SS} {r : R} (e : ev (.sget k i) sl ss = some (r, s)) : isSrc sl i = true ∧ r = .v (.int (ss.get k)) ∧ s = ss := by
  have e : (match isSrc sl i with | true => some (R.v (.int (ss.get k)), ss) | false => none) = some (r, s) := e
  split at e <;> cases e
  exact ⟨by assumption, rfl, rfl⟩
theorem ev_slen {i : Nat} {ss s : SS} {r : R} (e : ev (.slen i) sl ss = some (r, s)) : isSrc sl i = true ∧ r = .v (.int ss.cells.length) ∧ s = ss := by
  have e : (match isSrc sl i with | true => some (R.v (.int ss.cells.length), ss) | false => none) = some (r, s) := e
  split at e <;> cases e
  exact ⟨by assumption, rfl, rfl⟩
theorem LE.sget {k : SK} {i : Nat} (h : LE K g (ev (.sget k i) sl) sl σ H Q) : tDGet (tVar i) (tC (.str k.name)) σ H Q := by
  obtain ⟨F, ss, r, s, e, rp, kq⟩ := h
  obtain ⟨h1, rfl, rfl⟩ := ev_sget e
  exact ⟨_, rp.srcAt h1, _, _, rfl, rp.src.get k, kq _ H F rp.gr rp (.int _)⟩
theorem LE.slen {i : Nat} (h : LE K g (ev (.slen i) sl) sl σ H Q) : tCB (fun xs H Q => ∃ p ys, xs = [.ref p] ∧ (SqL K H p ys ∨ SqT K H p ys) ∧ Q (.int ys.length) H) (tCons (tDGet (tVar i) (tC (.str "cells"))) tNil) σ H Q := by
  obtain ⟨F, ss, r, s, e, rp, kq⟩ := h
  obtain ⟨h1, rfl, rfl⟩ := ev_slen e
  have key := kq (.int s.cells.length) H F rp.gr rp (.int _)
  have hl : (s.cells.reverse.map V.int).length = s.cells.length := by simp
  refine ⟨_, rp.srcAt h1, _, _, rfl, rp.src.getC, ?_⟩
  exact ⟨_, _, rfl, .inl (.of rp.src.2.1), by rw [hl]; exact key⟩
end
theorem PE.ex {X : Cx} {e : Expr} {t : List SV → TE} (h : ∀ s, PE X e (t s)) : PE X e (fun σ H Q => ∃ s, t s σ H Q) := ⟨fun pins s σ H Q I ⟨z, q⟩ => (h z).run pins s σ H Q I q⟩
theorem PTs.ex {X : Cx} {e : List Expr} {t : List SV → TT} (h : ∀ s, PTs X e (t s)) : PTs X e (fun σ H Q => ∃ s, t s σ H Q) := ⟨fun pins s σ H Q I ⟨z, q⟩ => (h z).run pins s σ H Q I q⟩
theorem PTs.imp {X : Cx} {e : List Expr} {t t' : TT} (h : PTs X e t) (i : ∀ σ H Q, t' σ H Q → t σ H Q) : PTs X e t' := ⟨fun pins s σ H Q I q => h.run pins s σ H Q I (i σ H Q q)⟩
theorem noset_fold {e : Expr} {env : Env} (h : setB e = false) : ∀ x, foldedSetIterable e env x = pure x := by
  intro x
  cases e <;> first | rfl | exact absurd h Bool.noConfusion
local macro_rules | `(tactic| decreasing_tactic) => `(tactic| first
  | (apply Prod.Lex.right; omega)
  | (apply Prod.Lex.left; omega)
  | (apply Prod.Lex.left; simp only [CE.bin.sizeOf_spec, CE.neg.sizeOf_spec, CE.not.sizeOf_spec, CE.and.sizeOf_spec, CE.or.sizeOf_spec, CE.cmp.sizeOf_spec, CE.cmp2.sizeOf_spec, CE.ife.sizeOf_spec, CE.tup.sizeOf_spec, CE.lst.sizeOf_spec, CE.star.sizeOf_spec, CE.lc.sizeOf_spec, CE.rg1.sizeOf_spec, CE.rg2.sizeOf_spec, CE.enm.sizeOf_spec, CE.dof.sizeOf_spec, CE.idx.sizeOf_spec, CE.sli.sizeOf_spec, CE.rev.sizeOf_spec, CE.bi.sizeOf_spec, CE.met.sizeOf_spec, CE.call.sizeOf_spec, CE.dhas.sizeOf_spec, CE.dget.sizeOf_spec, CE.dget2.sizeOf_spec, List.cons.sizeOf_spec, List.nil.sizeOf_spec]; omega))
mutual
theorem ev_ok : ∀ (c : Pm.CE) (X : Cx) (e : Expr) (sl : List SV), Good X j → CallsOk X j (calls c) → GlobsOk X (globs c) → vl c = true → chkE X.env.scope X.N c e = true → PE X e (LE X.K g (ev c sl) sl)
  | .lit d, X, e, sl, G, C, B, _, h => by
    cases e with
    | Constant k n pos => exact lit_ok h
    | _ => exact absurd h Bool.false_ne_true
  | .loc i, X, e, sl, G, C, B, _, h => by
    cases e with
    | Name x pos =>
      have h : (X.N[i]? == some x && visB X.env.scope x && noDbg x) = true := h
      simp only [Bool.and_eq_true] at h
      exact PE.imp (pe_var (eq_of_beq h.1.1) (vis_of h.1.2) (dbg_of h.2).1 (dbg_of h.2).2) fun σ H Q q => LE.loc q fun _ => rfl
    | _ => exact absurd h Bool.false_ne_true
  | .glo y d, X, e, sl, G, C, B, _, h => by
    cases e with
    | Name x pos =>
      have h : (x == y && gloB X.env.scope x && noDbg x) = true := h
      simp only [Bool.and_eq_true] at h
      obtain rfl : x = y := eq_of_beq h.1.1
      obtain ⟨u, v, e1, e2, e3⟩ := B (x, d) List.mem_cons_self
      exact PE.imp (pe_glob (gl_of h.1.2) e1 e2 (dbg_of h.2).1) fun σ H Q q => LE.lit q (fun _ => rfl) fun F => e3 F H
    | _ => exact absurd h Bool.false_ne_true
  | .bin o a b, X, e, sl, G, C, B, _, h => by
    cases e with
    | BinOp l p r pos =>
      have h : (bopB o p && vl a && chkE X.env.scope X.N a l && vl b && chkE X.env.scope X.N b r) = true := h
      simp only [Bool.and_eq_true] at h
      obtain rfl : p = opOf o := by cases o <;> cases p <;> first | rfl | exact absurd h.1.1.1.1 Bool.false_ne_true
      exact PE.imp (pe_op (op_binD o) (ev_ok a X l sl G C.app.1 B.app.1 h.1.1.1.2 h.1.1.2) (ev_ok b X r sl G C.app.2 B.app.2 h.1.2 h.2)) fun σ H Q q => LE.two (fun _ => rfl) q
    | _ => exact absurd h Bool.false_ne_true
  | .neg a, X, e, sl, G, C, B, _, h => by
    cases e with
    | UnaryOp p x pos =>
      have h : ((p == .USub) && vl a && chkE X.env.scope X.N a x) = true := h
      simp only [Bool.and_eq_true] at h
      obtain rfl : p = .USub := by cases p <;> first | rfl | exact absurd h.1.1 (by decide)
      refine PE.imp (pe_un (r := rU1 X.K g negD) (fun pins s σ H x v Q I rx ⟨F, ss, dx, r, a, hx, e, k⟩ => ?_) (ev_ok a X x sl G C B h.1.2 h.2)) fun σ H Q q => LE.one (fun _ => rfl) q
      unfold negD at e
      split at e <;> cases e
      obtain rfl := hx.int
      exact un_neg pins s σ H _ v Q I rx ⟨_, rfl, k.val a (.int _)⟩
    | _ => exact absurd h Bool.false_ne_true
  | .not a, X, e, sl, G, C, B, _, h => by
    cases e with
    | UnaryOp p x pos =>
      have h : ((p == .Not) && vl a && chkE X.env.scope X.N a x) = true := h
      simp only [Bool.and_eq_true] at h
      obtain rfl : p = .Not := by cases p <;> first | rfl | exact absurd h.1.1 (by decide)
      exact PE.imp (pe_not (ev_ok a X x sl G C B h.1.2 h.2)) fun σ H Q q => LE.not q fun _ => rfl
    | _ => exact absurd h Bool.false_ne_true
  | .and a b, X, e, sl, G, C, B, _, h => by
    cases e with
    | BoolOp p vs pos =>
      match vs, h with
      | [], h => exact absurd h Bool.false_ne_true
      | [x], h => exact absurd h Bool.false_ne_true
      | x :: y :: [], h =>
        have h : ((p == .And) && vl a && chkE X.env.scope X.N a x && vl b && chkE X.env.scope X.N b y) = true := h
        simp only [Bool.and_eq_true] at h
        obtain rfl : p = .And := by cases p <;> first | rfl | exact absurd h.1.1.1.1 (by decide)
        exact PE.imp (pe_and (ev_ok a X x sl G C.app.1 B.app.1 h.1.1.1.2 h.1.1.2) (pe_one (ev_ok b X y sl G C.app.2 B.app.2 h.1.2 h.2))) fun σ H Q q => LE.and q fun _ => rfl
      | x :: y :: z :: rest, h =>
        have h : ((p == .And) && vl a && chkE X.env.scope X.N a x && vl b && chkE X.env.scope X.N b (.BoolOp .And (y :: z :: rest) pos)) = true := h
        simp only [Bool.and_eq_true] at h
        obtain rfl : p = .And := by cases p <;> first | rfl | exact absurd h.1.1.1.1 (by decide)
        exact PE.imp (pe_and (ev_ok a X x sl G C.app.1 B.app.1 h.1.1.1.2 h.1.1.2) (ev_ok b X _ sl G C.app.2 B.app.2 h.1.2 h.2)) fun σ H Q q => LE.and q fun _ => rfl
    | _ => exact absurd h Bool.false_ne_true
  | .or a b, X, e, sl, G, C, B, _, h => by
    cases e with
    | BoolOp p vs pos =>
      match vs, h with
      | [], h => exact absurd h Bool.false_ne_true
      | [x], h => exact absurd h Bool.false_ne_true
      | x :: y :: [], h =>
        have h : ((p == .Or) && vl a && chkE X.env.scope X.N a x && vl b && chkE X.env.scope X.N b y) = true := h
        simp only [Bool.and_eq_true] at h
        obtain rfl : p = .Or := by cases p <;> first | rfl | exact absurd h.1.1.1.1 (by decide)
        exact PE.imp (pe_or (ev_ok a X x sl G C.app.1 B.app.1 h.1.1.1.2 h.1.1.2) (pe_one (ev_ok b X y sl G C.app.2 B.app.2 h.1.2 h.2))) fun σ H Q q => LE.or q fun _ => rfl
      | x :: y :: z :: rest, h =>
        have h : ((p == .Or) && vl a && chkE X.env.scope X.N a x && vl b && chkE X.env.scope X.N b (.BoolOp .Or (y :: z :: rest) pos)) = true := h
        simp only [Bool.and_eq_true] at h
        obtain rfl : p = .Or := by cases p <;> first | rfl | exact absurd h.1.1.1.1 (by decide)
        exact PE.imp (pe_or (ev_ok a X x sl G C.app.1 B.app.1 h.1.1.1.2 h.1.1.2) (ev_ok b X _ sl G C.app.2 B.app.2 h.1.2 h.2)) fun σ H Q q => LE.or q fun _ => rfl
    | _ => exact absurd h Bool.false_ne_true
  | .cmp o a b, X, e, sl, G, C, B, _, h => by
    cases e with
    | Compare l ps rs pos =>
      match ps, rs, h with
      | [p], [r], h =>
        have h : (copB o p r && vl a && chkE X.env.scope X.N a l && vl b && chkE X.env.scope X.N b r) = true := h
        simp only [Bool.and_eq_true] at h
        obtain ⟨h1, h2⟩ := cop2_ok (g := g) G h.1.1.1.1
        exact PE.imp (pe_cmpR (r := rCx X.K g o r) h2 (ev_ok a X l sl G C.app.1 B.app.1 h.1.1.1.2 h.1.1.2) (ev_ok b X r sl G C.app.2 B.app.2 h.1.2 h.2) h1) fun σ H Q q => LE.cmpx (fun _ => rfl) (lit_of h.2) q
      | [], _, h => exact absurd h Bool.false_ne_true
      | _ :: _ :: _, [], h => first | exact absurd h Bool.false_ne_true | (rename_i x; cases x <;> exact absurd h Bool.false_ne_true)
      | [_], [], h => exact absurd h Bool.false_ne_true
      | [_], _ :: _ :: _, h => exact absurd h Bool.false_ne_true
      | _ :: _ :: _, _ :: _, h => first | exact absurd h Bool.false_ne_true | (rename_i x y; cases x <;> cases y <;> exact absurd h Bool.false_ne_true)
    | _ => exact absurd h Bool.false_ne_true
  | .cmp2 o o' a b c, X, e, sl, G, C, B, _, h => by
    cases e with
    | Compare l ps rs pos =>
      by_cases hp : ∃ p p' r r', ps = [p, p'] ∧ rs = [r, r']
      · obtain ⟨p, p', r, r', rfl, rfl⟩ := hp
        have h : (copB o p r && copB o' p' r' && !setB r && !setB r' && vl a && chkE X.env.scope X.N a l && vl b && chkE X.env.scope X.N b r && vl c && chkE X.env.scope X.N c r') = true := h
        simp only [Bool.and_eq_true] at h
        obtain ⟨⟨⟨⟨⟨⟨⟨⟨⟨q1, q2⟩, q3⟩, q4⟩, q5⟩, q6⟩, q7⟩, q8⟩, q9⟩, q10⟩ := h
        obtain ⟨h1, h2⟩ := cop2_ok (g := g) G q1
        obtain ⟨h3, h4⟩ := cop2_ok (g := g) G q2
        exact PE.imp (pe_chain (r := rCx X.K g o r) (r' := rCx X.K g o' r') h2 h4 (ev_ok a X l sl G C.app.1.app.1 B.app.1.app.1 q5 q6) (ev_ok b X r sl G C.app.1.app.2 B.app.1.app.2 q7 q8) (ev_ok c X r' sl G C.app.2 B.app.2 q9 q10) h3)
          fun σ H Q q => LE.chainx q (lit_of q8) (lit_of q10) fun _ => rfl
      · match ps, rs, h, hp with
        | [p, p'], [r, r'], h, hp => exact absurd ⟨p, p', r, r', rfl, rfl⟩ hp
        | [], _, h, _ => exact absurd h Bool.false_ne_true
        | [_], _, h, _ => exact absurd h Bool.false_ne_true
        | [_, _], [], h, _ => exact absurd h Bool.false_ne_true
        | [_, _], [_], h, _ => exact absurd h Bool.false_ne_true
        | [_, _], _ :: _ :: _ :: _, h, _ => exact absurd h Bool.false_ne_true
        | _ :: _ :: _ :: _, _, h, _ => exact absurd h Bool.false_ne_true
    | _ => exact absurd h Bool.false_ne_true
  | .ife c a b, X, e, sl, G, C, B, _, h => by
    cases e with
    | IfExp t x y pos =>
      have h : (vl c && chkE X.env.scope X.N c t && vl a && chkE X.env.scope X.N a x && vl b && chkE X.env.scope X.N b y) = true := h
      simp only [Bool.and_eq_true] at h
      obtain ⟨⟨⟨⟨⟨q1, q2⟩, q3⟩, q4⟩, q5⟩, q6⟩ := h
      exact PE.imp (pe_ifExp (evT_ok c X t sl G C.app.1.app.1 B.app.1.app.1 q1 q2) (ev_ok a X x sl G C.app.1.app.2 B.app.1.app.2 q3 q4) (ev_ok b X y sl G C.app.2 B.app.2 q5 q6)) fun σ H Q q => LE.ife q fun _ => rfl
    | _ => exact absurd h Bool.false_ne_true
  | .tup es, X, e, sl, G, C, B, _, h => by
    cases e with
    | Tuple xs k pos => exact PE.imp (pe_tup (evX_ok es X xs sl G C B h)) fun σ H Q q => LX.tup q fun _ => rfl
    | Call f args kws pos => exact evR_ok true es X f args kws pos sl G C B h
    | _ => exact absurd h Bool.false_ne_true
  | .lst es, X, e, sl, G, C, B, _, h => by
    cases e with
    | List xs pos => exact PE.imp (pe_lst (evX_ok es X xs sl G C B h)) fun σ H Q q => LX.lst q fun _ => rfl
    | Call f args kws pos => exact evR_ok false es X f args kws pos sl G C B h
    | _ => exact absurd h Bool.false_ne_true
  | .star _, _, _, _, _, _, _, h, _ => absurd h Bool.false_ne_true
  | .lc elt tg it cond, X, e, sl, G, C, B, _, h => by
    obtain ⟨x, t, i, ifs, scope, pos, rfl, q1, q2, q3, q4, q5, q6, q7, q8, q9⟩ := lc_inv h
    have ok : BlkOk X.N X.env.scope scope (tg.names X.N) := blk_ok q1
    have eb : ∀ (s' : List SV) (s : Shared) (H : Hp) (C' : Addr) (cl : List (Str × Addr)) (fp : List Addr), PE (X.blk s H scope (compEnvC scope cl C' X.env) fp) x (LE X.K g (ev elt s') s') := fun s' s H C' cl fp =>
      ev_ok elt _ x s' (G.blk _ _ _ _ _) C.app.1.app.1 B.app.1.app.1 q6 q7
    have cb : ∀ (s' : List SV) (s : Shared) (H : Hp) (C' : Addr) (cl : List (Str × Addr)) (fp : List Addr), PTs (X.blk s H scope (compEnvC scope cl C' X.env) fp) ifs (LT X.K g (fun ss => toC (evs cond s' ss)) s') := fun s' s H C' cl fp =>
      evC_ok cond _ ifs s' (G.blk _ _ _ _ _) C.app.2 B.app.2 q8 q9
    have hI : PI X t i (LI X.K g false (fun ss => toI (ev it sl ss)) sl) := evI_ok false it X t i sl G C.app.1.app.2 B.app.1.app.2 (fun z => by cases z) q3 q4
    have key := pe_lc (g := LG X.K g tg) (pos := pos) (own := tg.names X.N) G.calm G.nd hI ok (fun s H C' cl fp => tg_ok (g := g) (G.blk s H scope (compEnvC scope cl C' X.env) fp) (fun x => locB scope x) (st_of ok.uniq rfl) tg t q2)
      (fun s H C' cl fp => PTs.ex fun s' => cb s' s H C' cl fp) (fun s H C' cl fp => PE.ex fun s' => eb s' s H C' cl fp) (noset_fold q5)
    rw [names_snd] at key
    exact PE.imp key fun σ H Q q => LE.lc (cn := fun s' ss => toC (evs cond s' ss)) (elt := fun s' ss => ev elt s' ss) (el := fun s' ss => toE (ev elt s' ss)) q (fun _ => rfl) (fun _ _ => rfl) (fun _ _ _ z => z) (fun s' _ _ _ z => ⟨s', z⟩) (fun s' _ _ _ z => ⟨s', z⟩)
  | .rg1 _, _, _, _, _, _, _, h, _ => absurd h Bool.false_ne_true
  | .rg2 _ _, _, _, _, _, _, _, h, _ => absurd h Bool.false_ne_true
  | .rg3 _ _ _, _, _, _, _, _, _, h, _ => absurd h Bool.false_ne_true
  | .enm _, _, _, _, _, _, _, h, _ => absurd h Bool.false_ne_true
  | .zip _ _, _, _, _, _, _, _, h, _ => absurd h Bool.false_ne_true
  | .idx a i, X, e, sl, G, C, B, _, h => by
    cases e with
    | Subscript x y pos =>
      have h : (vl a && chkE X.env.scope X.N a x && vl i && chkE X.env.scope X.N i y) = true := h
      simp only [Bool.and_eq_true] at h
      refine PE.imp (pe_ix (ix_ok g) (ev_ok a X x sl G C.app.1 B.app.1 h.1.1.1 h.1.1.2) (ev_ok i X y sl G C.app.2 B.app.2 h.1.2 h.2) (chk_ix h.2)) fun σ H Q q => LE.two (fun ss => ?_) q
      show (toD (ev a sl ss)).bind _ = _
      congr 1
      funext p
      congr 1
      funext q
      rw [Option.map_map]
      rfl
    | _ => exact absurd h Bool.false_ne_true
  | .sli a lo hi, X, e, sl, G, C, B, _, h => by
    cases e with
    | Subscript x y pos =>
      cases y with
      | Slice l u s p2 =>
        obtain ⟨q1, q2, q3, q4, q5⟩ := sli_inv h
        obtain rfl : s = none := by cases s <;> first | rfl | cases q1
        have hl : PO X l (LP X.K g (fun ss => toP lo (ev lo sl ss)) sl) := by
          cases l with
          | none => exact po_nop q4
          | some e =>
            simp only [Bool.and_eq_true, Bool.not_eq_true'] at q4
            exact po_ex q4.1.1 (ev_ok lo X e sl G C.app.1.app.2 B.app.1.app.2 q4.1.2 q4.2)
        have hu : PO X u (LP X.K g (fun ss => toP hi (ev hi sl ss)) sl) := by
          cases u with
          | none => exact po_nop q5
          | some e =>
            simp only [Bool.and_eq_true, Bool.not_eq_true'] at q5
            exact po_ex q5.1.1 (ev_ok hi X e sl G C.app.2 B.app.2 q5.1.2 q5.2)
        exact PE.imp (pe_slice (sl_list.or sl_tupA) (ev_ok a X x sl G C.app.1.app.1 B.app.1.app.1 q2 q3) hl hu) fun σ H Q q => LE.sli q fun _ => rfl
      | _ => exact absurd h Bool.false_ne_true
    | _ => exact absurd h Bool.false_ne_true
  | .nop, _, _, _, _, _, _, h, _ => absurd h Bool.false_ne_true
  | .rev a, X, e, sl, G, C, B, _, h => by
    cases e with
    | Subscript x s pos =>
      have h : (revB s && vl a && chkE X.env.scope X.N a x) = true := h
      simp only [Bool.and_eq_true] at h
      obtain ⟨k, p1, p2, p3, rfl⟩ : ∃ k p1 p2 p3, s = .Slice none none (some (.UnaryOp .USub (.Constant (.int 1) k p1) p2)) p3 := by
        have h1 := h.1.1
        unfold revB at h1
        split at h1
        · exact ⟨_, _, _, _, rfl⟩
        · cases h1
      refine PE.imp (pe_revX (ev_ok a X x sl G C B h.1.2 h.2)) fun σ H Q q => ?_
      obtain ⟨F, ss, r, ss', e, rp, k⟩ := q
      obtain ⟨d, e1, e2⟩ := O.f_of e
      obtain ⟨ra, e3, e4⟩ := O.f_of e1
      refine ⟨F, ss, ra, _, e3, rp, fun x H1 F1 g1 p1 h1 => ?_⟩
      unfold revD at e2
      split at e2
      · cases e2
        obtain ⟨p, vs, rfl, sp, fp⟩ := (h1.rd e4).lst
        exact ⟨p, vs, rfl, .inl ⟨.of sp, fun q hq => Kt.lst p1.at (fun z H2 F2 g2 s2 h2 => k z H2 F2 (g1.trans g2) (p1.step g2 s2) (h2.early g1)) fp.rev hq⟩⟩
      · cases e2
        obtain ⟨p, vs, rfl, sp, fp⟩ := (h1.rd e4).tup
        exact ⟨p, vs, rfl, .inr ⟨sp, fun q hq => Kt.tup p1.at (fun z H2 F2 g2 s2 h2 => k z H2 F2 (g1.trans g2) (p1.step g2 s2) (h2.early g1)) fp.rev hq⟩⟩
      · cases e2
    | _ => exact absurd h Bool.false_ne_true
  | .bi f es, X, e, sl, G, C, B, _, h => by
    cases e with
    | Call fn args kws pos =>
      cases fn with
      | Name x npos =>
        cases kws with
        | cons _ _ => exact absurd h Bool.false_ne_true
        | nil =>
          have h : ((x == biName f) && gloB X.env.scope x && (match biIs f with
            | some T => chkIs X.env.scope X.N T es args
            | none => biPlain f && chkA X.env.scope X.N es args && !args.isEmpty)) = true := h
          simp only [Bool.and_eq_true] at h
          obtain ⟨⟨q1, q2⟩, q3⟩ := h
          obtain rfl : x = biName f := eq_of_beq q1
          have hm : biName f ∈ bltNames → X.mg (biName f) = none := fun z => G.blt _ z
          cases hf : biIs f with
          | some T =>
            rw [hf] at q3
            obtain ⟨c, e, t, tp, rfl, rfl, r1, r2, r3, r4⟩ := chkIs_inv q3
            · skip
              obtain rfl : t = (T : Str) := eq_of_beq r1
              have hc : PE X e (LE X.K g (ev c sl) sl) := ev_ok c X e sl G (C.app (m := [])).1 (B.app (m := [])).1 r3 r4
              have ht : T ∈ ["int", "bool", "tuple", "str", "list"] ∧ biName f = "isinstance" ∧ biD f = isTD T ∧ bootBuiltins (T : Str) = some (.type T) ∧ X.mg (T : Str) = none ∧ (T : Str) ≠ "__name__" ∧ ((T : Str) == ("__debug__" : Str)) = false := by
                cases f <;> cases hf
                all_goals exact ⟨by simp, rfl, rfl, by decide +kernel, G.blt _ (by decide +kernel), by decide, by decide⟩
              obtain ⟨t1, t2, t3, t4, t5, t6, t7⟩ := ht
              have pt : PE X (.Name (T : Str) tp) (tC (.ty T)) := pe_bltn (gl_of r2) t5 t4 rfl t6 t7
              rw [t2] at q2 hm ⊢
              refine PE.imp (pe_callB (bi_isT (g := g) t1) (gl_of q2) (hm (by decide +kernel)) (by decide +kernel) (pa_cons hc (pa_cons pt pa_nil) (star_cons (chk_star r4))) (by decide) (by decide) (star_cons (chk_star r4)) rfl) fun σ H Q q => ?_
              obtain ⟨F, ss, r, ss', e1, rp, k⟩ := q
              obtain ⟨ds, e2, e3⟩ := O.f_of e1
              obtain ⟨rs, e4, e5⟩ := O.f_of e2
              obtain ⟨⟨ra, s1⟩, e6, e7⟩ := bind_of e4
              cases e7
              obtain ⟨d, e8, e9⟩ := bind_of e5
              cases e9
              rw [t3] at e3
              have e3 : some (bl (isT T d)) = some r := e3
              cases e3
              exact ⟨F, ss, ra, _, e6, rp, fun x H1 F1 g1 p1 h1 => ⟨F1, _, d, x, rfl, p1.at, h1.rd e8, fun z H2 F2 g2 s2 h2 => k z H2 F2 (g1.trans g2) (p1.step g2 s2) (h2.early g1)⟩⟩
          | none =>
            rw [hf] at q3
            simp only [Bool.and_eq_true] at q3
            obtain ⟨⟨r1, r2⟩, r3⟩ := q3
            have hm := hm ((bi_free G f).resolve_right (by cases f <;> first | exact absurd r1 Bool.false_ne_true | decide))
            have hn : biName f ≠ "__name__" ∧ (biName f == ("__debug__" : Str)) = false := by cases f <;> exact ⟨by decide, by decide⟩
            have pa := evA_ok es X args sl G C B r2
            match es, args, r2, r3, pa with
            | c :: cs, e :: es', r2, _, pa =>
              have r2 : (vl c && chkE X.env.scope X.N c e && chkA X.env.scope X.N cs es') = true := r2
              simp only [Bool.and_eq_true] at r2
              rcases bi_rule (g := g) G f r1 with ⟨id, b1, b2⟩ | ⟨T, b1, b2⟩
              · exact PE.imp (pe_callB b2 (gl_of q2) hm b1 pa hn.1 hn.2 (star_cons (chk_star r2.1.2)) (chkA_any r2.2)) fun σ H Q q => LE.bi q fun _ => rfl
              · exact PE.imp (pe_callTy b2 (gl_of q2) hm b1 pa hn.1 hn.2 (star_cons (chk_star r2.1.2)) (chkA_any r2.2)) fun σ H Q q => LE.bi q fun _ => rfl
            | _, [], _, r3, _ => exact absurd r3 (by decide)
            | [], _ :: _, r2, _, _ => exact absurd r2 Bool.false_ne_true
      | _ => cases kws <;> exact absurd h Bool.false_ne_true
    | _ => exact absurd h Bool.false_ne_true
  | .met m o es, X, e, sl, G, C, B, _, h => by
    unfold chkE at h
    split at h <;> first | (cases h; done) | (rename_i heq; cases heq; done) | (rename_i heq; cases heq)
    simp only [Bool.and_eq_true] at h
    obtain ⟨⟨⟨⟨⟨q1, q2⟩, q3⟩, q4⟩, q5⟩, q6⟩ := h
    obtain rfl := eq_of_beq q1
    have ho := ev_ok o X _ sl G C.app.1 B.app.1 q4 q5
    have ha := evA_ok es X _ sl G C.app.2 B.app.2 q6
    have hs : ∀ {a : Expr}, chkA X.env.scope X.N es [a] = true → ∀ v p, a ≠ .Starred v p := by
      intro a hh
      match es, hh with
      | [c], hh =>
        have hh : (vl c && chkE X.env.scope X.N c a && chkA X.env.scope X.N [] []) = true := hh
        simp only [Bool.and_eq_true] at hh
        exact chk_star hh.1.2
      | [], hh => exact absurd hh Bool.false_ne_true
      | _ :: _ :: _, hh =>
        simp only [chkA, Bool.and_false] at hh
        exact absurd hh Bool.false_ne_true
    have hs := hs q6
    have hu : X.A.units + 65 < cLine := by have := G.u; omega
    cases m with
    | index => exact PE.imp (pe_bm PySem.F.plainAttrs_list PySem.F.slot_list_index PySem.F.type_list_index (mt_ix (g := g) hu) ho ha (base_of q3) (by rw [star_cons hs]; rfl) q2 (star_cons hs) rfl) fun σ H Q q => LE.met q
    | count => exact PE.imp (pe_bm PySem.F.plainAttrs_list PySem.F.slot_list_count PySem.F.type_list_count (mt_ct (g := g) hu) ho ha (base_of q3) (by rw [star_cons hs]; rfl) q2 (star_cons hs) rfl) fun σ H Q q => LE.met q
    | _ => exact PE.none g (fun ss => met_none (by simp) (by simp) ss)
  | .dof s a, X, e, sl, G, C, B, _, h => by
    obtain ⟨x, p, y, q, e', r, t, rfl, q1, q2, q3, q4, q5, q6⟩ := dof_inv h
    obtain rfl := eq_of_beq q3
    have ha := ev_ok a X _ sl G C B q5 q6
    have hd : PE X (.Call (.Name "dict" q) [e'] [] r) _ := pe_callTy (call_dictP G.calm) (gl_of q4) (G.blt _ (by decide +kernel)) (by decide +kernel) (pa_cons ha pa_nil (star_cons (chk_star q6))) (by decide) (by decide) (star_cons (chk_star q6)) rfl
    cases s with
    | true =>
      obtain rfl := eq_of_beq q1
      exact PE.imp (pe_callB (call_sortedDI G.calm) (gl_of q2) (G.blt _ (by decide +kernel)) (by decide +kernel) (pa_cons hd pa_nil)) fun σ H Q q => LE.dofS q
    | false =>
      obtain rfl := eq_of_beq q1
      exact PE.imp (pe_callB call_lenD (gl_of q2) (G.blt _ (by decide +kernel)) (by decide +kernel) (pa_cons hd pa_nil)) fun σ H Q q => LE.dofL q
  | .dhas b k i, X, e, sl, G, C, B, _, h => by
    obtain ⟨l, p, x, np, pos, rfl, q0, q1, q2, q3, q4, q5⟩ := dhas_inv h
    have hu : X.A.units + 1 < cLine := by have := G.u; omega
    have hk := ev_ok k X _ sl G C B q4 q5
    have hv : PE X (.Name x np) (tVar i) := pe_var (eq_of_beq q1) (vis_of q2) (dbg_of q3).1 (dbg_of q3).2
    cases b <;> cases p <;> first | exact absurd q0 Bool.false_ne_true | skip
    · exact PE.imp (pe_cmp (pc_dnotin hu hk hv) rfl) fun σ H Q q => LE.dhas q
    · exact PE.imp (pe_cmp (pc_din hu hk hv) rfl) fun σ H Q q => LE.dhas q
  | .dget i k, X, e, sl, G, C, B, _, h => by
    obtain ⟨x, np, ke, pos, rfl, q1, q2, q3, q4, q5⟩ := dget_inv h
    exact PE.imp (pe_dget (by have := G.u; omega) (pe_var (eq_of_beq q1) (vis_of q2) (dbg_of q3).1 (dbg_of q3).2) (ev_ok k X _ sl G C B q4 q5) (nosl_of q5)) fun σ H Q q => LE.dget q
  | .dget2 i k d, X, e, sl, G, C, B, _, h => by
    obtain ⟨x, np, m, ap, a, b, cp, rfl, q1, q2, q3, q4, q5, q6, q7, q8, q9⟩ := dget2_inv h
    obtain rfl := eq_of_beq q4
    exact PE.imp (pe_dget2 (by have := G.u; omega) (pe_var (eq_of_beq q1) (vis_of q2) (dbg_of q3).1 (dbg_of q3).2) (ev_ok k X _ sl G C.app.1 B.app.1 q6 q7) (ev_ok d X _ sl G C.app.2 B.app.2 q8 q9)
      ⟨rfl, by rw [star_cons (chk_star q7), star_cons (chk_star q9)]; rfl, q5, by rw [star_cons (chk_star q7), star_cons (chk_star q9)]; rfl⟩) fun σ H Q q => LE.dget2 q
  | .call y f es, X, e, sl, G, C, B, _, h => by
    cases e with
    | Call fn args kws pos =>
      cases fn with
      | Name x npos =>
        cases kws with
        | cons _ _ => exact absurd h Bool.false_ne_true
        | nil =>
          have h : ((x == y) && gloB X.env.scope x && noDbg x && chkA X.env.scope X.N es args) = true := h
          simp only [Bool.and_eq_true] at h
          obtain ⟨⟨⟨q1, q2⟩, q3⟩, q4⟩ := h
          obtain rfl : x = y := eq_of_beq q1
          obtain ⟨k, hk, a, fd, ps, np, Fn, e1, e2, e3, e4, e5⟩ := C (x, f) List.mem_cons_self
          have C' : CallsOk X j (callss es) := fun p hp => C p (List.mem_cons_of_mem _ hp)
          have pa := evA_ok es X args sl G C' B q4
          match args, q4, pa with
          | [], q4, pa =>
            refine PE.imp (pe_callG0 Fn (G.room.mono hk) G.gu (gl_of q2) e2 e3 e4 (dbg_of q3).1) fun σ H Q q => ?_
            have q := LE.call (np := np) q (fun _ => rfl) e5
            match es, q4, q with
            | [], _, q => exact LA.nil q
            | _ :: _, q4, _ => exact absurd q4 Bool.false_ne_true
          | e :: es', q4, pa =>
            match es, q4, pa with
            | [], q4, _ => exact absurd q4 Bool.false_ne_true
            | c :: cs, q4, pa =>
              have q4 : (vl c && chkE X.env.scope X.N c e && chkA X.env.scope X.N cs es') = true := q4
              simp only [Bool.and_eq_true] at q4
              exact PE.imp (pe_callG Fn (G.room.mono hk) G.gu (gl_of q2) e2 e3 e4 (dbg_of q3).1 pa (star_cons (chk_star q4.1.2)) (chkA_any q4.2)) fun σ H Q q => LE.call q (fun _ => rfl) e5
      | _ => cases kws <;> exact absurd h Bool.false_ne_true
    | _ => exact absurd h Bool.false_ne_true
  | .sget k i, X, e, sl, G, C, B, _, h => by
    unfold chkE at h
    split at h <;> first | (cases h; done) | (rename_i heq; cases heq; done) | (rename_i heq; cases heq)
    simp only [Bool.and_eq_true] at h
    obtain ⟨⟨⟨q1, q2⟩, q3⟩, q4⟩ := h
    obtain rfl := eq_of_beq q4
    exact PE.imp (pe_dget (by have := G.u; omega) (pe_var (eq_of_beq q1) (vis_of q2) (dbg_of q3).1 (dbg_of q3).2) pe_str (fun _ _ => rfl)) fun σ H Q q => LE.sget q
  | .slen i, X, e, sl, G, C, B, _, h => by
    unfold chkE at h
    split at h <;> first | (cases h; done) | (rename_i heq; cases heq; done) | (rename_i heq; cases heq)
    simp only [Bool.and_eq_true] at h
    obtain ⟨⟨⟨⟨⟨q0, q5⟩, q1⟩, q2⟩, q3⟩, q4⟩ := h
    obtain rfl := eq_of_beq q4
    obtain rfl := eq_of_beq q0
    exact PE.imp (pe_callB call_len_seq (gl_of q5) (G.blt "len" (by decide +kernel)) boot_len (pa_cons (pe_dget (by have := G.u; omega) (pe_var (eq_of_beq q1) (vis_of q2) (dbg_of q3).1 (dbg_of q3).2) pe_str (fun _ _ => rfl)) pa_nil)) fun σ H Q q => LE.slen q
  | .newk, X, e, sl, G, C, B, _, h => by
    obtain ⟨pos, rfl⟩ := newk_inv h
    exact PE.imp pe_dnewK fun σ H Q q => LE.newk q
  | .newt, X, e, sl, G, C, B, _, h => by
    cases e <;> exact absurd h Bool.false_ne_true
termination_by c X e => (sizeOf c, 0)
theorem evT_ok : ∀ (c : Pm.CE) (X : Cx) (e : Expr) (sl : List SV), Good X j → CallsOk X j (calls c) → GlobsOk X (globs c) → vl c = true → chkE X.env.scope X.N c e = true → PT X e (LT X.K g (fun ss => toB (ev c sl ss)) sl)
  | .not a, X, e, sl, G, C, B, _, h => by
    cases e with
    | UnaryOp p x pos =>
      have h : ((p == .Not) && vl a && chkE X.env.scope X.N a x) = true := h
      simp only [Bool.and_eq_true] at h
      obtain rfl : p = .Not := by cases p <;> first | rfl | exact absurd h.1.1 (by decide)
      exact PT.imp (pt_not (evT_ok a X x sl G C B h.1.2 h.2)) fun σ H Q q => LT.not q fun _ => rfl
    | _ => exact absurd h Bool.false_ne_true
  | .and a b, X, e, sl, G, C, B, _, h => by
    cases e with
    | BoolOp p vs pos =>
      match vs, h with
      | [], h => exact absurd h Bool.false_ne_true
      | [x], h => exact absurd h Bool.false_ne_true
      | x :: y :: [], h =>
        have h : ((p == .And) && vl a && chkE X.env.scope X.N a x && vl b && chkE X.env.scope X.N b y) = true := h
        simp only [Bool.and_eq_true] at h
        obtain rfl : p = .And := by cases p <;> first | rfl | exact absurd h.1.1.1.1 (by decide)
        exact PT.imp (pw_and (evT_ok a X x sl G C.app.1 B.app.1 h.1.1.1.2 h.1.1.2) (pw_and1 (evT_ok b X y sl G C.app.2 B.app.2 h.1.2 h.2))).pt fun σ H Q q => LT.and q fun _ => rfl
      | x :: y :: z :: rest, h =>
        have h : ((p == .And) && vl a && chkE X.env.scope X.N a x && vl b && chkE X.env.scope X.N b (.BoolOp .And (y :: z :: rest) pos)) = true := h
        simp only [Bool.and_eq_true] at h
        obtain rfl : p = .And := by cases p <;> first | rfl | exact absurd h.1.1.1.1 (by decide)
        exact PT.imp (pw_and (evT_ok a X x sl G C.app.1 B.app.1 h.1.1.1.2 h.1.1.2) (PT.pw (evT_ok b X _ sl G C.app.2 B.app.2 h.1.2 h.2))).pt fun σ H Q q => LT.and q fun _ => rfl
    | _ => exact absurd h Bool.false_ne_true
  | .or a b, X, e, sl, G, C, B, _, h => by
    cases e with
    | BoolOp p vs pos =>
      match vs, h with
      | [], h => exact absurd h Bool.false_ne_true
      | [x], h => exact absurd h Bool.false_ne_true
      | x :: y :: [], h =>
        have h : ((p == .Or) && vl a && chkE X.env.scope X.N a x && vl b && chkE X.env.scope X.N b y) = true := h
        simp only [Bool.and_eq_true] at h
        obtain rfl : p = .Or := by cases p <;> first | rfl | exact absurd h.1.1.1.1 (by decide)
        exact PT.imp (pw_or (evT_ok a X x sl G C.app.1 B.app.1 h.1.1.1.2 h.1.1.2) (pw_or1 (evT_ok b X y sl G C.app.2 B.app.2 h.1.2 h.2))).pt fun σ H Q q => LT.or q fun _ => rfl
      | x :: y :: z :: rest, h =>
        have h : ((p == .Or) && vl a && chkE X.env.scope X.N a x && vl b && chkE X.env.scope X.N b (.BoolOp .Or (y :: z :: rest) pos)) = true := h
        simp only [Bool.and_eq_true] at h
        obtain rfl : p = .Or := by cases p <;> first | rfl | exact absurd h.1.1.1.1 (by decide)
        exact PT.imp (pw_or (evT_ok a X x sl G C.app.1 B.app.1 h.1.1.1.2 h.1.1.2) (PT.pw (evT_ok b X _ sl G C.app.2 B.app.2 h.1.2 h.2))).pt fun σ H Q q => LT.or q fun _ => rfl
    | _ => exact absurd h Bool.false_ne_true
  | .cmp o a b, X, e, sl, G, C, B, hv, h => by
    by_cases hp : ∃ l p r pos, e = .Compare l [p] [r] pos
    · obtain ⟨l, p, r, pos, rfl⟩ := hp
      have h : (copB o p r && vl a && chkE X.env.scope X.N a l && vl b && chkE X.env.scope X.N b r) = true := h
      simp only [Bool.and_eq_true] at h
      obtain ⟨h1, h2⟩ := cop2_ok (g := g) G h.1.1.1.1
      exact PT.imp (pt_cmpR (r := rCx X.K g o r) h2 (ev_ok a X l sl G C.app.1 B.app.1 h.1.1.1.2 h.1.1.2) (ev_ok b X r sl G C.app.2 B.app.2 h.1.2 h.2) h1) fun σ H Q q => LT.test (fun Q q => LE.cmpx (fun _ => rfl) (lit_of h.2) q) q
    · cases e with
      | Compare l ps rs pos =>
        match ps, rs, h, hp with
        | [p], [r], h, hp => exact absurd ⟨l, p, r, pos, rfl⟩ hp
        | [], _, h, _ => exact absurd h Bool.false_ne_true
        | [_], [], h, _ => exact absurd h Bool.false_ne_true
        | [_], _ :: _ :: _, h, _ => exact absurd h Bool.false_ne_true
        | _ :: _ :: _, [], h, _ => exact absurd h Bool.false_ne_true
        | _ :: _ :: _, [_], h, _ => exact absurd h Bool.false_ne_true
        | _ :: _ :: _, _ :: _ :: _, h, _ => exact absurd h Bool.false_ne_true
      | _ => exact absurd h Bool.false_ne_true
  | .cmp2 o o' a b c, X, e, sl, G, C, B, _, h => by
    cases e with
    | Compare l ps rs pos =>
      by_cases hp : ∃ p p' r r', ps = [p, p'] ∧ rs = [r, r']
      · obtain ⟨p, p', r, r', rfl, rfl⟩ := hp
        have h : (copB o p r && copB o' p' r' && !setB r && !setB r' && vl a && chkE X.env.scope X.N a l && vl b && chkE X.env.scope X.N b r && vl c && chkE X.env.scope X.N c r') = true := h
        simp only [Bool.and_eq_true] at h
        obtain ⟨⟨⟨⟨⟨⟨⟨⟨⟨q1, q2⟩, q3⟩, q4⟩, q5⟩, q6⟩, q7⟩, q8⟩, q9⟩, q10⟩ := h
        obtain ⟨h1, h2⟩ := cop2_ok (g := g) G q1
        obtain ⟨h3, h4⟩ := cop2_ok (g := g) G q2
        exact PT.imp (pt_chain (r := rCx X.K g o r) (r' := rCx X.K g o' r') h2 h4 (ev_ok a X l sl G C.app.1.app.1 B.app.1.app.1 q5 q6) (ev_ok b X r sl G C.app.1.app.2 B.app.1.app.2 q7 q8) (ev_ok c X r' sl G C.app.2 B.app.2 q9 q10) h3)
          fun σ H Q q => LT.test (fun Q q => LE.chainx q (lit_of q8) (lit_of q10) fun _ => rfl) q
      · match ps, rs, h, hp with
        | [p, p'], [r, r'], h, hp => exact absurd ⟨p, p', r, r', rfl, rfl⟩ hp
        | [], _, h, _ => exact absurd h Bool.false_ne_true
        | [_], _, h, _ => exact absurd h Bool.false_ne_true
        | [_, _], [], h, _ => exact absurd h Bool.false_ne_true
        | [_, _], [_], h, _ => exact absurd h Bool.false_ne_true
        | [_, _], _ :: _ :: _ :: _, h, _ => exact absurd h Bool.false_ne_true
        | _ :: _ :: _ :: _, _, h, _ => exact absurd h Bool.false_ne_true
    | _ => exact absurd h Bool.false_ne_true
  | .ife c a b, X, e, sl, G, C, B, _, h => by
    cases e with
    | IfExp t x y pos =>
      have h : (vl c && chkE X.env.scope X.N c t && vl a && chkE X.env.scope X.N a x && vl b && chkE X.env.scope X.N b y) = true := h
      simp only [Bool.and_eq_true] at h
      obtain ⟨⟨⟨⟨⟨q1, q2⟩, q3⟩, q4⟩, q5⟩, q6⟩ := h
      exact PT.imp (pt_ife (evT_ok c X t sl G C.app.1.app.1 B.app.1.app.1 q1 q2) (evT_ok a X x sl G C.app.1.app.2 B.app.1.app.2 q3 q4) (evT_ok b X y sl G C.app.2 B.app.2 q5 q6)) fun σ H Q q => LT.ife q fun _ => rfl
    | _ => exact absurd h Bool.false_ne_true
  | .dhas b k i, X, e, sl, G, C, B, _, h => by
    obtain ⟨l, p, x, np, pos, rfl, q0, q1, q2, q3, q4, q5⟩ := dhas_inv h
    have hu : X.A.units + 1 < cLine := by have := G.u; omega
    have hk := ev_ok k X _ sl G C B q4 q5
    have hv : PE X (.Name x np) (tVar i) := pe_var (eq_of_beq q1) (vis_of q2) (dbg_of q3).1 (dbg_of q3).2
    cases b <;> cases p <;> first | exact absurd q0 Bool.false_ne_true | skip
    · exact PT.imp (pt_cmp (pc_dnotin hu hk hv) rfl) fun σ H Q q => LE.dhas (LT.val q)
    · exact PT.imp (pt_cmp (pc_din hu hk hv) rfl) fun σ H Q q => LE.dhas (LT.val q)
  | .dget i k, X, e, sl, G, C, B, hv, h => PT.imp (pt_val (ev_ok (.dget i k) X e sl G C B hv h) (val_of rfl h X.env)) fun σ H Q q => LT.val q
  | .dget2 i k d, X, e, sl, G, C, B, hv, h => PT.imp (pt_val (ev_ok (.dget2 i k d) X e sl G C B hv h) (val_of rfl h X.env)) fun σ H Q q => LT.val q
  | .dof s a, X, e, sl, G, C, B, hv, h => PT.imp (pt_val (ev_ok (.dof s a) X e sl G C B hv h) (val_of rfl h X.env)) fun σ H Q q => LT.val q
  | .lit d, X, e, sl, G, C, B, hv, h => PT.imp (pt_val (ev_ok (.lit d) X e sl G C B hv h) (val_of rfl h X.env)) fun σ H Q q => LT.val q
  | .loc i, X, e, sl, G, C, B, hv, h => PT.imp (pt_val (ev_ok (.loc i) X e sl G C B hv h) (val_of rfl h X.env)) fun σ H Q q => LT.val q
  | .glo x d, X, e, sl, G, C, B, hv, h => PT.imp (pt_val (ev_ok (.glo x d) X e sl G C B hv h) (val_of rfl h X.env)) fun σ H Q q => LT.val q
  | .bin o a b, X, e, sl, G, C, B, hv, h => PT.imp (pt_val (ev_ok (.bin o a b) X e sl G C B hv h) (val_of rfl h X.env)) fun σ H Q q => LT.val q
  | .neg a, X, e, sl, G, C, B, hv, h => PT.imp (pt_val (ev_ok (.neg a) X e sl G C B hv h) (val_of rfl h X.env)) fun σ H Q q => LT.val q
  | .tup a, X, e, sl, G, C, B, hv, h => PT.imp (pt_val (ev_ok (.tup a) X e sl G C B hv h) (val_of rfl h X.env)) fun σ H Q q => LT.val q
  | .lst a, X, e, sl, G, C, B, hv, h => PT.imp (pt_val (ev_ok (.lst a) X e sl G C B hv h) (val_of rfl h X.env)) fun σ H Q q => LT.val q
  | .star a, X, e, sl, G, C, B, hv, h => PT.imp (pt_val (ev_ok (.star a) X e sl G C B hv h) (val_of rfl h X.env)) fun σ H Q q => LT.val q
  | .lc a b c d, X, e, sl, G, C, B, hv, h => PT.imp (pt_val (ev_ok (.lc a b c d) X e sl G C B hv h) (val_of rfl h X.env)) fun σ H Q q => LT.val q
  | .rg1 a, X, e, sl, G, C, B, hv, h => PT.imp (pt_val (ev_ok (.rg1 a) X e sl G C B hv h) (val_of rfl h X.env)) fun σ H Q q => LT.val q
  | .rg2 a b, X, e, sl, G, C, B, hv, h => PT.imp (pt_val (ev_ok (.rg2 a b) X e sl G C B hv h) (val_of rfl h X.env)) fun σ H Q q => LT.val q
  | .rg3 a b c, X, e, sl, G, C, B, hv, h => PT.imp (pt_val (ev_ok (.rg3 a b c) X e sl G C B hv h) (val_of rfl h X.env)) fun σ H Q q => LT.val q
  | .enm a, X, e, sl, G, C, B, hv, h => PT.imp (pt_val (ev_ok (.enm a) X e sl G C B hv h) (val_of rfl h X.env)) fun σ H Q q => LT.val q
  | .zip a b, X, e, sl, G, C, B, hv, h => PT.imp (pt_val (ev_ok (.zip a b) X e sl G C B hv h) (val_of rfl h X.env)) fun σ H Q q => LT.val q
  | .idx a b, X, e, sl, G, C, B, hv, h => PT.imp (pt_val (ev_ok (.idx a b) X e sl G C B hv h) (val_of rfl h X.env)) fun σ H Q q => LT.val q
  | .sli a b c, X, e, sl, G, C, B, hv, h => PT.imp (pt_val (ev_ok (.sli a b c) X e sl G C B hv h) (val_of rfl h X.env)) fun σ H Q q => LT.val q
  | .nop, X, e, sl, G, C, B, hv, h => PT.imp (pt_val (ev_ok .nop X e sl G C B hv h) (val_of rfl h X.env)) fun σ H Q q => LT.val q
  | .rev a, X, e, sl, G, C, B, hv, h => PT.imp (pt_val (ev_ok (.rev a) X e sl G C B hv h) (val_of rfl h X.env)) fun σ H Q q => LT.val q
  | .bi f a, X, e, sl, G, C, B, hv, h => PT.imp (pt_val (ev_ok (.bi f a) X e sl G C B hv h) (val_of rfl h X.env)) fun σ H Q q => LT.val q
  | .met m a b, X, e, sl, G, C, B, hv, h => PT.imp (pt_val (ev_ok (.met m a b) X e sl G C B hv h) (val_of rfl h X.env)) fun σ H Q q => LT.val q
  | .call a b c, X, e, sl, G, C, B, hv, h => PT.imp (pt_val (ev_ok (.call a b c) X e sl G C B hv h) (val_of rfl h X.env)) fun σ H Q q => LT.val q
  | .sget k i, X, e, sl, G, C, B, hv, h => PT.imp (pt_val (ev_ok (.sget k i) X e sl G C B hv h) (val_of rfl h X.env)) fun σ H Q q => LT.val q
  | .slen i, X, e, sl, G, C, B, hv, h => PT.imp (pt_val (ev_ok (.slen i) X e sl G C B hv h) (val_of rfl h X.env)) fun σ H Q q => LT.val q
  | .newk, X, e, sl, G, C, B, hv, h => PT.imp (pt_val (ev_ok .newk X e sl G C B hv h) (val_of rfl h X.env)) fun σ H Q q => LT.val q
  | .newt, X, e, sl, G, C, B, hv, h => PT.imp (pt_val (ev_ok .newt X e sl G C B hv h) (val_of rfl h X.env)) fun σ H Q q => LT.val q
termination_by c X e => (sizeOf c, 1)
theorem evA_ok : ∀ (cs : List Pm.CE) (X : Cx) (es : List Expr) (sl : List SV), Good X j → CallsOk X j (callss cs) → GlobsOk X (globss cs) → chkA X.env.scope X.N cs es = true → PA X es (LA X.K g (evs cs sl) sl)
  | [], X, [], sl, G, C, B, h => PA.imp pa_nil fun σ H Q q => LA.nil q
  | [], X, _ :: _, sl, G, C, B, h => absurd h Bool.false_ne_true
  | _ :: _, X, [], sl, G, C, B, h => absurd h Bool.false_ne_true
  | c :: cs, X, e :: es, sl, G, C, B, h => by
    have h : (vl c && chkE X.env.scope X.N c e && chkA X.env.scope X.N cs es) = true := h
    simp only [Bool.and_eq_true] at h
    exact PA.imp (pa_cons (ev_ok c X e sl G C.app.1 B.app.1 h.1.1 h.1.2) (evA_ok cs X es sl G C.app.2 B.app.2 h.2) (star_cons (chk_star h.1.2))) fun σ H Q q => LA.cons q fun _ => rfl
termination_by cs X es => (sizeOf cs, 0)
theorem evC_ok : ∀ (cs : List Pm.CE) (X : Cx) (es : List Expr) (sl : List SV), Good X j → CallsOk X j (callss cs) → GlobsOk X (globss cs) → chkA X.env.scope X.N cs es = true → es.length ≤ 1 → PTs X es (LT X.K g (fun ss => toC (evs cs sl ss)) sl)
  | [], X, [], sl, G, C, B, h, _ => PTs.imp pts_nil fun σ H Q q => by
    obtain ⟨F, ss, r, ss', e, rp, k⟩ := q
    have e : some (true, ss) = some (r, ss') := e
    cases e
    exact k H F rp.gr rp
  | [], X, _ :: _, sl, G, C, B, h, _ => absurd h Bool.false_ne_true
  | _ :: _, X, [], sl, G, C, B, h, _ => absurd h Bool.false_ne_true
  | c :: cs, X, [e], sl, G, C, B, h, _ => by
    have h : (vl c && chkE X.env.scope X.N c e && chkA X.env.scope X.N cs []) = true := h
    simp only [Bool.and_eq_true] at h
    obtain rfl : cs = [] := by cases cs <;> first | rfl | exact absurd h.2 Bool.false_ne_true
    refine PTs.imp (pts_one (evT_ok c X e sl G C.app.1 B.app.1 h.1.1 h.1.2)) fun σ H Q q => ?_
    obtain ⟨F, ss, r, ss', e, rp, k⟩ := q
    obtain ⟨rs, e1, e2⟩ := O.f_of e
    obtain ⟨⟨r1, s1⟩, e3, e4⟩ := bind_of e1
    cases e4
    have e2 : asB r1 = some r := e2
    exact ⟨F, ss, r, _, by show (ev c sl ss).f asB = _; rw [e3]; show (asB r1).map _ = _; rw [e2]; rfl, rp, k⟩
  | _ :: _, X, _ :: _ :: _, sl, G, C, B, h, hl => absurd hl (by simp)
termination_by cs X es => (sizeOf cs, 0)
theorem evX_ok : ∀ (cs : List Pm.CE) (X : Cx) (es : List Expr) (sl : List SV), Good X j → CallsOk X j (callss cs) → GlobsOk X (globss cs) → chkX X.env.scope X.N cs es = true → PA X es (LX X.K g (fun ss => (evs cs sl ss).f dispR) sl)
  | [], X, [], sl, G, C, B, h => PA.imp pa_nil fun σ H Q q => LX.nil q
  | [], X, _ :: _, sl, G, C, B, h => absurd h Bool.false_ne_true
  | _ :: _, X, [], sl, G, C, B, h => absurd h Bool.false_ne_true
  | c :: cs, X, e :: es, sl, G, C, B, h => by
    obtain ⟨h1, h2⟩ := chkX_inv h
    rcases h1 with ⟨c', e', pos, ec, rfl, h3, h4⟩ | ⟨h3, h4⟩ | ⟨a, x, q, e', pos, ec, rfl, h5, h6, h7⟩ | ⟨a, b, x, q, e', f', pos, ec, rfl, h5, h6, h7, h8, h9⟩
    · have hc : sizeOf c' < sizeOf c := by rw [ec]; simp
      have C1 : CallsOk X j (calls c') := by have := C.app.1; rw [ec] at this; exact this
      have B1 : GlobsOk X (globs c') := by have := B.app.1; rw [ec] at this; exact this
      exact PA.imp (StX.pa_star (ev_ok c' X e' sl G C1 B1 h3 h4) (evX_ok cs X es sl G C.app.2 B.app.2 h2)) fun σ H Q q => LX.star q fun _ => by rw [ec]; rfl
    · exact PA.imp (pa_cons (ev_ok c X e sl G C.app.1 B.app.1 h3 h4) (evX_ok cs X es sl G C.app.2 B.app.2 h2) (star_cons (chk_star h4))) fun σ H Q q => LX.cons q fun _ => rfl
    · have hc : sizeOf a < sizeOf c := by rw [ec]; simp; omega
      have C1 : CallsOk X j (calls a) := by have := C.app.1; rw [ec] at this; exact this
      have B1 : GlobsOk X (globs a) := by have := B.app.1; rw [ec] at this; exact this
      have h5 : (x == "range" && gloB X.env.scope "range") = true := h5
      rw [Bool.and_eq_true] at h5
      obtain rfl : x = "range" := eq_of_beq h5.1
      exact PA.imp (pa_starRg G.calm (prg_1 (gl_of h5.2) (G.blt "range" (by decide +kernel)) (ev_ok a X e' sl G C1 B1 h6 h7) (star_cons (chk_star h7))) (evX_ok cs X es sl G C.app.2 B.app.2 h2)) fun σ H Q q => LX.starRg1 q fun _ => by rw [ec]; rfl
    · have hc1 : sizeOf a < sizeOf c := by rw [ec]; simp; omega
      have hc2 : sizeOf b < sizeOf c := by rw [ec]; simp; omega
      have C1 : CallsOk X j (calls a ++ calls b) := by have := C.app.1; rw [ec] at this; exact this
      have B1 : GlobsOk X (globs a ++ globs b) := by have := B.app.1; rw [ec] at this; exact this
      have h5 : (x == "range" && gloB X.env.scope "range") = true := h5
      rw [Bool.and_eq_true] at h5
      obtain rfl : x = "range" := eq_of_beq h5.1
      exact PA.imp (pa_starRg G.calm (prg_2 (gl_of h5.2) (G.blt "range" (by decide +kernel)) (ev_ok a X e' sl G C1.app.1 B1.app.1 h6 h7) (ev_ok b X f' sl G C1.app.2 B1.app.2 h8 h9) (star_cons (chk_star h7)) (star_cons (chk_star h9)) (by rw [star_cons (chk_star h9)]; rfl)) (evX_ok cs X es sl G C.app.2 B.app.2 h2)) fun σ H Q q => LX.starRg2 q fun _ => by rw [ec]; rfl
termination_by cs X es => (sizeOf cs, 0)
theorem evR_ok : ∀ (b : Bool) (cs : List Pm.CE) (X : Cx) (f : Expr) (args : List Expr) (kws : List Keyword) (pos : Pos) (sl : List SV), Good X j → CallsOk X j (callss cs) → GlobsOk X (globss cs) → chkE X.env.scope X.N (if b then .tup cs else .lst cs) (.Call f args kws pos) = true →
    PE X (.Call f args kws pos) (LE X.K g (ev (if b then .tup cs else .lst cs) sl) sl)
  | b, cs, X, f, args, kws, pos, sl, G, C, B, h => by
    obtain ⟨x, np, e, rfl, rfl, rfl, h1, h2, h3⟩ := rX_inv b h
    have hev : ev (if b = true then Pm.CE.tup cs else Pm.CE.lst cs) sl = fun ss => (toX (evs cs sl ss)).bind fun p => some (mkR b p.1, p.2) := by cases b <;> rfl
    rw [hev]
    have hb : b = true ∨ b = false := by cases b <;> simp
    rcases rR_inv h3 with ⟨a, y, q, e', rfl, rfl, h4, h5, h6⟩ | ⟨a, c, y, q, e', f', rfl, rfl, h4, h5, h6, h7, h8⟩
    · have C1 : CallsOk X j (calls a) := C.app.1
      have B1 : GlobsOk X (globs a) := B.app.1
      have h4 : (y == "range" && gloB X.env.scope "range") = true := h4
      rw [Bool.and_eq_true] at h4
      obtain rfl : y = "range" := eq_of_beq h4.1
      have pr := prg_1 (p := q.1) (pos := q.2) (gl_of h4.2) (G.blt "range" (by decide +kernel)) (ev_ok a X e' sl G C1 B1 h5 h6) (star_cons (chk_star h6))
      rcases hb with rfl | rfl
      · obtain rfl : x = "tuple" := h1
        exact PE.imp (pe_tupRg G.calm (gl_of h2) (G.blt "tuple" (by decide +kernel)) pr rfl) fun σ H Q q => LE.rgX true q
      · obtain rfl : x = "list" := h1
        exact PE.imp (pe_listRg G.calm (gl_of h2) (G.blt "list" (by decide +kernel)) pr rfl) fun σ H Q q => LE.rgX false q
    · have C1 : CallsOk X j (calls a ++ calls c) := C.app.1
      have B1 : GlobsOk X (globs a ++ globs c) := B.app.1
      have h4 : (y == "range" && gloB X.env.scope "range") = true := h4
      rw [Bool.and_eq_true] at h4
      obtain rfl : y = "range" := eq_of_beq h4.1
      have pr := prg_2 (p := q.1) (pos := q.2) (gl_of h4.2) (G.blt "range" (by decide +kernel)) (ev_ok a X e' sl G C1.app.1 B1.app.1 h5 h6) (ev_ok c X f' sl G C1.app.2 B1.app.2 h7 h8) (star_cons (chk_star h6)) (star_cons (chk_star h8)) (by rw [star_cons (chk_star h8)]; rfl)
      rcases hb with rfl | rfl
      · obtain rfl : x = "tuple" := h1
        exact PE.imp (pe_tupRg G.calm (gl_of h2) (G.blt "tuple" (by decide +kernel)) pr rfl) fun σ H Q q => LE.rgX2 true q
      · obtain rfl : x = "list" := h1
        exact PE.imp (pe_listRg G.calm (gl_of h2) (G.blt "list" (by decide +kernel)) pr rfl) fun σ H Q q => LE.rgX2 false q
termination_by b cs X => (sizeOf cs, 0)
theorem evI_ok : ∀ (nb : Bool) (c : Pm.CE) (X : Cx) (t e : Expr) (sl : List SV), Good X j → CallsOk X j (calls c) → GlobsOk X (globs c) → (nb = true → noBo c = true) → (!enB c || tupB t) = true → chkE X.env.scope X.N c e = true →
    PI X t e (LI X.K g nb (fun ss => toI (ev c sl ss)) sl)
  | nb, c, X, t, e, sl, G, C, B, hn, ht, h => by
    by_cases hv : vl c = true
    · exact pi_seq (ev_ok c X e sl G C B hv h) nb fun z ss r s e => not_bo (hn z) e
    · rcases it_inv hv h with ⟨a, y, q, e', rfl, rfl, h4, h5, h6⟩ | ⟨a, b, y, q, e', f', rfl, rfl, h4, h5, h6, h7, h8⟩ | ⟨a, q, e', rfl, rfl, h4, h5, h6⟩
      · have h4 : (y == "range" && gloB X.env.scope "range") = true := h4
        rw [Bool.and_eq_true] at h4
        obtain rfl : y = "range" := eq_of_beq h4.1
        exact pi_rg1 nb (gl_of h4.2) (G.blt "range" (by decide +kernel)) (ev_ok a X e' sl G C B h5 h6) (chk_star h6)
      · have h4 : (y == "range" && gloB X.env.scope "range") = true := h4
        rw [Bool.and_eq_true] at h4
        obtain rfl : y = "range" := eq_of_beq h4.1
        exact pi_rg2 nb (gl_of h4.2) (G.blt "range" (by decide +kernel)) (ev_ok a X e' sl G C.app.1 B.app.1 h5 h6) (ev_ok b X f' sl G C.app.2 B.app.2 h7 h8) (chk_star h6) (chk_star h8)
      · cases t <;> first | exact absurd ht Bool.false_ne_true | skip
        exact pi_en nb (gl_of h4) (G.blt "enumerate" (by decide +kernel)) (ev_ok a X e' sl G C B h5 h6) (chk_star h6) fun z ss r s e => not_bo (c := a) (hn z) e
termination_by nb c X => (sizeOf c, 1)
end
end Pm
namespace Pm
open PySem PySem.Spec PyProof.Rows L2
/-- locked lists stay as they are -/
def Lk (sl sl' : List SV) (σ σ' : L2.St) (H H' : Hp) : Prop := ∀ (i : Nat) (xs : List D), sl'[i]? = some (.lock xs) → sl[i]? = some (.lock xs) ∧ σ'[i]? = σ[i]? ∧ ∀ a, σ[i]? = some (some (.ref a)) → H' a = H a
theorem Lk.refl {sl : List SV} {σ : L2.St} {H : Hp} : Lk sl sl σ σ H H := fun _ _ h => ⟨h, rfl, fun _ _ => rfl⟩
theorem Lk.trans {s1 s2 s3 : List SV} {t1 t2 t3 : L2.St} {H1 H2 H3 : Hp} (a : Lk s1 s2 t1 t2 H1 H2) (b : Lk s2 s3 t2 t3 H2 H3) : Lk s1 s3 t1 t3 H1 H3 := fun i xs h =>
  let ⟨h1, h2, h3⟩ := b i xs h
  let ⟨k1, k2, k3⟩ := a i xs h1
  ⟨k1, h2.trans k2, fun c e => (h3 c (k2.trans e)).trans (k3 c e)⟩
/-- a slot that is no lock is set -/
theorem Lk.set {sl : List SV} {σ : L2.St} {H : Hp} {i : Nat} {s : SV} {x : Option V} (hs : ∀ xs, s ≠ .lock xs) : Lk sl (sl.set i s) σ (σ.set i x) H H := fun j xs h => by
  by_cases hj : i = j
  · subst hj
    by_cases hi : i < sl.length
    · rw [List.getElem?_set_self hi] at h; cases h; exact absurd rfl (hs _)
    · rw [List.getElem?_eq_none (by rw [List.length_set]; omega)] at h; cases h
  · rw [List.getElem?_set_ne hj] at h
    exact ⟨h, List.getElem?_set_ne hj, fun _ _ => rfl⟩
theorem Lk.set0 {sl : List SV} {σ : L2.St} {H H' : Hp} {i : Nat} {s : SV} (hs : ∀ xs, s ≠ .lock xs) (hH : ∀ j xs a, i ≠ j → sl[j]? = some (.lock xs) → σ[j]? = some (some (.ref a)) → H' a = H a) : Lk sl (sl.set i s) σ σ H H' := fun j xs h => by
  by_cases hj : i = j
  · subst hj
    by_cases hi : i < sl.length
    · rw [List.getElem?_set_self hi] at h; cases h; exact absurd rfl (hs _)
    · rw [List.getElem?_eq_none (by rw [List.length_set]; omega)] at h; cases h
  · rw [List.getElem?_set_ne hj] at h
    exact ⟨h, rfl, fun a e => hH j xs a hj h e⟩
theorem Ke.refl {K : PySem.W.Frag} {F : Addr → Prop} {H : Hp} : Ke K F F H H := ⟨fun _ _ h => h, fun _ _ f h => ⟨f, h⟩⟩
theorem Ke.trans {K : PySem.W.Frag} {F F1 F2 : Addr → Prop} {H H1 H2 : Hp} (a : Ke K F F1 H H1) (b : Ke K F1 F2 H1 H2) : Ke K F F2 H H2 :=
  ⟨fun c vs h => b.tup c vs (a.tup c vs h), fun c vs f h => let ⟨f1, h1⟩ := a.lst c vs f h; b.lst c vs f1 h1⟩
section
variable {K : PySem.W.Frag} {g : G} {F F' : Addr → Prop} {H H' H0 : Hp} {ss ss' : SS} {sl sl' : List SV} {σ σ' : L2.St}
/-- a slot is set -/
theorem Rp.setS {i : Nat} {s : SV} {x : V} (r : Rp K g F ss sl σ H) (rs : RS K g F H s (some x)) (hap : s.ow = true → ∀ (j : Nat) (t : SV) (b : Addr), j ≠ i → sl[j]? = some t → t.ow = true → σ[j]? = some (some (.ref b)) → x ≠ .ref b) :
    Rp K g F ss (sl.set i s) (σ.set i (some x)) H := by
  refine ⟨by rw [List.length_set, List.length_set]; exact r.len, fun j t e => ?_, fun j l t u a hne ej el os ot eσ => ?_, r.ent, r.frz, r.dom, r.fe, r.fC, r.eS, r.src⟩
  · by_cases hj : i = j
    · subst hj
      by_cases hi : i < sl.length
      · rw [List.getElem?_set_self hi] at e
        cases e
        exact ⟨some x, List.getElem?_set_self (by rw [← r.len]; exact hi), rs⟩
      · rw [List.getElem?_eq_none (by rw [List.length_set]; omega)] at e; cases e
    · rw [List.getElem?_set_ne hj] at e ⊢
      exact r.slot j t e
  · have bound : ∀ {k : Nat} {t : SV}, (sl.set i s)[k]? = some t → k < sl.length := fun {k t} e => by
      have := (List.getElem?_eq_some_iff.mp e).1
      rw [List.length_set] at this; exact this
    by_cases hj : i = j
    · subst hj
      have hi := bound ej
      rw [List.getElem?_set_self hi] at ej
      cases ej
      rw [List.getElem?_set_self (by rw [← r.len]; exact hi)] at eσ
      cases eσ
      rw [List.getElem?_set_ne hne] at el ⊢
      intro z
      exact hap os l u a (Ne.symm hne) el ot z rfl
    · rw [List.getElem?_set_ne hj] at ej eσ
      by_cases hl : i = l
      · subst hl
        have hi := bound el
        rw [List.getElem?_set_self hi] at el
        cases el
        intro z
        rw [List.getElem?_set_self (by rw [← r.len]; exact hi)] at z
        cases z
        exact hap ot j t a hne ej os eσ rfl
      · rw [List.getElem?_set_ne hl] at el ⊢
        exact r.apart j l t u a hne ej el os ot eσ
/-- where an owned thing stands -/
theorem Rp.owned {i : Nat} {s : SV} {a : Addr} (r : Rp K g F ss sl σ H) (e : sl[i]? = some s) (ho : s.ow = true) (ea : σ[i]? = some (some (.ref a))) : ∃ o, H a = some o := by
  obtain ⟨x, e1, h⟩ := r.slot i s e
  rw [ea] at e1
  cases e1
  cases s with
  | own xs => obtain ⟨b, vs, z, h1, _⟩ := h; cases z; exact ⟨_, h1⟩
  | lock xs => obtain ⟨b, vs, z, h1, _⟩ := h; cases z; exact ⟨_, h1⟩
  | dk xs => obtain ⟨b, vs, z, h1, _⟩ := h; cases z; exact ⟨_, h1⟩
  | dt xs => obtain ⟨b, vs, z, h1, _⟩ := h; cases z; exact ⟨_, h1⟩
  | _ => cases ho
/-- the result of an expression is given to a slot; p, H: the state ahead of the expression -/
theorem RR.toSlot {r : R} {s : SV} {x : V} {i : Nat} (p : Rp K g F ss sl σ H) (p' : Rp K g F' ss' sl σ H') (h : RR K g F' H H' r x) (e : toS r = some s) : Rp K g F' ss' (sl.set i s) (σ.set i (some x)) H' ∧ ∀ xs, s ≠ .lock xs := by
  have he : ∀ {a : Addr}, H a = none → g.He a = none ∧ a ≠ g.C ∧ a ≠ g.A := fun {a} z => by
    have n1 : a ≠ g.A := fun q => by rw [q, p.src.1] at z; cases z
    have n2 : a ≠ g.C := fun q => by rw [q, p.src.2.1] at z; cases z
    refine ⟨?_, n2, n1⟩
    cases q : g.He a with
    | none => rfl
    | some o => rw [p.ent a o q n1 n2] at z; cases z
  have hap : ∀ {a : Addr}, H a = none → ∀ (j : Nat) (t : SV) (b : Addr), j ≠ i → sl[j]? = some t → t.ow = true → σ[j]? = some (some (.ref b)) → V.ref a ≠ .ref b := fun {a} z j t b _ e1 e2 e3 q => by
    cases q
    obtain ⟨o, e⟩ := p.owned e1 e2 e3
    rw [z] at e; cases e
  cases r with
  | v d => cases e; exact ⟨p'.setS ⟨x, rfl, h⟩ (fun z => by cases z), fun _ z => by cases z⟩
  | fr xs =>
    cases e
    obtain ⟨a, vs, rfl, h1, h2, h3, h4⟩ := h
    obtain ⟨q1, q2, q3⟩ := he h4
    exact ⟨p'.setS ⟨a, vs, rfl, h1, h2, h3, q2, q1⟩ (fun _ => hap h4), fun _ z => by cases z⟩
  | src => cases e; obtain rfl : x = _ := h; exact ⟨p'.setS (s := .src) rfl (fun z => by cases z), fun _ z => by cases z⟩
  | nk k =>
    cases e
    obtain ⟨a, vs, rfl, h1, h2, h4⟩ := h
    obtain ⟨q1, q2, q3⟩ := he h4
    exact ⟨p'.setS ⟨a, vs, rfl, h1, h2, q3, q1⟩ (fun _ => hap h4), fun _ z => by cases z⟩
  | nt k =>
    cases e
    obtain ⟨a, vs, rfl, h1, h2, h4⟩ := h
    obtain ⟨q1, q2, q3⟩ := he h4
    exact ⟨p'.setS ⟨a, vs, rfl, h1, h2, q3, q1⟩ (fun _ => hap h4), fun _ z => by cases z⟩
  | _ => cases e
/-- a list of one's own is written -/
theorem Rp.write {i : Nat} {xs ys : List D} {a : Addr} {vs ws : List V} (r : Rp K g F ss sl σ H) (e : sl[i]? = some (.own xs)) (ea : σ[i]? = some (some (.ref a))) (hv : H a = some (.lst vs)) (hw : FDs K F H ws ys) :
    Rp K g F ss (sl.set i (.own ys)) σ (upd H a (.lst ws)) ∧ Ke K F F H (upd H a (.lst ws)) ∧ Lk sl (sl.set i (.own ys)) σ σ H (upd H a (.lst ws)) := by
  obtain ⟨x, e1, b, vs', z, h1, h2, h3, h4, h5⟩ := r.slot i _ e
  rw [ea] at e1
  cases e1
  cases z
  have nA : a ≠ g.A := fun q => by rw [q, r.src.1] at hv; cases hv
  have ke : Ke K F F H (upd H a (.lst ws)) := by
    refine ⟨fun c us s => ?_, fun c us f e => ⟨f, by rw [upd_ne (fun q : c = a => h3 (q ▸ f))]; exact e⟩⟩
    rcases s with (s | ⟨o, s⟩) | s
    · exact .inl (.inl (by rw [upd_ne (fun q : c = a => by rw [q, hv] at s; cases s)]; exact s))
    · exact .inl (.inr ⟨o, by rw [upd_ne (fun q : c = a => by rw [q, hv] at s; cases s)]; exact s⟩)
    · exact .inr s
  have hi : i < sl.length := (List.getElem?_eq_some_iff.mp e).1
  refine ⟨⟨by rw [List.length_set]; exact r.len, fun j t ej => ?_, fun j l t u c hne ej el os ot eσ => ?_, fun c o q n1 n2 => ?_, r.frz, fun c f => ?_, r.fe, r.fC, r.eS, r.src.upd (Ne.symm nA) (Ne.symm h4)⟩, ke, Lk.set0 (fun _ q => by cases q) fun j xs c hj e1 e2 => upd_ne fun z : c = a => (by subst z; exact r.apart i j _ _ _ hj e e1 rfl rfl ea e2)⟩
  · by_cases hj : i = j
    · subst hj
      rw [List.getElem?_set_self hi] at ej
      cases ej
      exact ⟨_, ea, a, ws, rfl, upd_same, hw.keep ke, h3, h4, h5⟩
    · rw [List.getElem?_set_ne hj] at ej
      obtain ⟨x, e2, h⟩ := r.slot j t ej
      have na : ∀ {b : Addr}, t.ow = true → x = some (.ref b) → b ≠ a := fun {b} ho q z => by
        subst z
        rw [q] at e2
        exact r.apart i j _ t b hj e ej rfl ho ea e2
      refine ⟨x, e2, ?_⟩
      cases t with
      | un => trivial
      | v d => obtain ⟨v, q, h⟩ := h; exact ⟨v, q, h.keep ke⟩
      | own zs => obtain ⟨b, us, q, k1, k2, k3⟩ := h; exact ⟨b, us, q, by rw [upd_ne (na rfl q)]; exact k1, k2.keep ke, k3⟩
      | lock zs => obtain ⟨b, us, q, k1, k2, k3⟩ := h; exact ⟨b, us, q, by rw [upd_ne (na rfl q)]; exact k1, k2.keep ke, k3⟩
      | dk zs => obtain ⟨b, us, q, k1, k2, k3⟩ := h; exact ⟨b, us, q, by rw [upd_ne (na rfl q)]; exact k1, Paired.mapP k2 fun _ _ z => ⟨z.1, z.2.keep ke⟩, k3⟩
      | dt zs => obtain ⟨b, us, q, k1, k2, k3⟩ := h; exact ⟨b, us, q, by rw [upd_ne (na rfl q)]; exact k1, Paired.mapP k2 fun _ _ z => ⟨z.1, z.2.keep ke⟩, k3⟩
      | src => exact h
  · have old : ∀ {k : Nat} {t : SV}, (sl.set i (.own ys))[k]? = some t → t.ow = true → ∃ t', sl[k]? = some t' ∧ t'.ow = true := fun {k t} q o => by
      by_cases hk : i = k
      · subst hk; exact ⟨_, e, rfl⟩
      · rw [List.getElem?_set_ne hk] at q; exact ⟨t, q, o⟩
    obtain ⟨t', q1, q2⟩ := old ej os
    obtain ⟨u', q3, q4⟩ := old el ot
    exact r.apart j l t' u' c hne q1 q3 q2 q4 eσ
  · rw [upd_ne (fun z : c = a => by rw [z, h5] at q; cases q)]
    exact r.ent c o q n1 n2
  · obtain ⟨us, q⟩ := r.dom c f
    exact ⟨us, by rw [upd_ne (fun z : c = a => h3 (z ▸ f))]; exact q⟩
/-- a dict of one's own is written -/
theorem Rp.writeK {i : Nat} {xs ys : List (L2.Key × D)} {a : Addr} {vs ws : List (L2.Key × V)} (r : Rp K g F ss sl σ H) (e : sl[i]? = some (.dk xs)) (ea : σ[i]? = some (some (.ref a))) (hv : H a = some (.dK vs)) (hw : KVs K F H ws ys) :
    Rp K g F ss (sl.set i (.dk ys)) σ (upd H a (.dK ws)) ∧ Ke K F F H (upd H a (.dK ws)) ∧ Lk sl (sl.set i (.dk ys)) σ σ H (upd H a (.dK ws)) := by
  obtain ⟨x, e1, b, vs', z, h1, h2, h3, h5⟩ := r.slot i _ e
  rw [ea] at e1
  cases e1
  cases z
  have nC : a ≠ g.C := fun q => by rw [q, r.src.2.1] at hv; cases hv
  have nF : ¬ F a := fun f => by obtain ⟨us, q⟩ := r.dom a f; rw [q] at hv; cases hv
  have ke : Ke K F F H (upd H a (.dK ws)) := by
    refine ⟨fun c us s => ?_, fun c us f e => ⟨f, by rw [upd_ne (fun q : c = a => nF (q ▸ f))]; exact e⟩⟩
    rcases s with (s | ⟨o, s⟩) | s
    · exact .inl (.inl (by rw [upd_ne (fun q : c = a => by rw [q, hv] at s; cases s)]; exact s))
    · exact .inl (.inr ⟨o, by rw [upd_ne (fun q : c = a => by rw [q, hv] at s; cases s)]; exact s⟩)
    · exact .inr s
  have hi : i < sl.length := (List.getElem?_eq_some_iff.mp e).1
  refine ⟨⟨by rw [List.length_set]; exact r.len, fun j t ej => ?_, fun j l t u c hne ej el os ot eσ => ?_, fun c o q n1 n2 => ?_, r.frz, fun c f => ?_, r.fe, r.fC, r.eS, r.src.upd (Ne.symm h3) (Ne.symm nC)⟩, ke, Lk.set0 (fun _ q => by cases q) fun j xs c hj e1 e2 => upd_ne fun z : c = a => (by subst z; exact r.apart i j _ _ _ hj e e1 rfl rfl ea e2)⟩
  · by_cases hj : i = j
    · subst hj
      rw [List.getElem?_set_self hi] at ej
      cases ej
      exact ⟨_, ea, a, ws, rfl, upd_same, Paired.mapP hw fun _ _ z => ⟨z.1, z.2.keep ke⟩, h3, h5⟩
    · rw [List.getElem?_set_ne hj] at ej
      obtain ⟨x, e2, h⟩ := r.slot j t ej
      have na : ∀ {b : Addr}, t.ow = true → x = some (.ref b) → b ≠ a := fun {b} ho q z => by
        subst z
        rw [q] at e2
        exact r.apart i j _ t b hj e ej rfl ho ea e2
      refine ⟨x, e2, ?_⟩
      cases t with
      | un => trivial
      | v d => obtain ⟨v, q, h⟩ := h; exact ⟨v, q, h.keep ke⟩
      | own zs => obtain ⟨b, us, q, k1, k2, k3⟩ := h; exact ⟨b, us, q, by rw [upd_ne (na rfl q)]; exact k1, k2.keep ke, k3⟩
      | lock zs => obtain ⟨b, us, q, k1, k2, k3⟩ := h; exact ⟨b, us, q, by rw [upd_ne (na rfl q)]; exact k1, k2.keep ke, k3⟩
      | dk zs => obtain ⟨b, us, q, k1, k2, k3⟩ := h; exact ⟨b, us, q, by rw [upd_ne (na rfl q)]; exact k1, Paired.mapP k2 fun _ _ z => ⟨z.1, z.2.keep ke⟩, k3⟩
      | dt zs => obtain ⟨b, us, q, k1, k2, k3⟩ := h; exact ⟨b, us, q, by rw [upd_ne (na rfl q)]; exact k1, Paired.mapP k2 fun _ _ z => ⟨z.1, z.2.keep ke⟩, k3⟩
      | src => exact h
  · have old : ∀ {k : Nat} {t : SV}, (sl.set i (.dk ys))[k]? = some t → t.ow = true → ∃ t', sl[k]? = some t' ∧ t'.ow = true := fun {k t} q o => by
      by_cases hk : i = k
      · subst hk; exact ⟨_, e, rfl⟩
      · rw [List.getElem?_set_ne hk] at q; exact ⟨t, q, o⟩
    obtain ⟨t', q1, q2⟩ := old ej os
    obtain ⟨u', q3, q4⟩ := old el ot
    exact r.apart j l t' u' c hne q1 q3 q2 q4 eσ
  · rw [upd_ne (fun z : c = a => by rw [z, h5] at q; cases q)]
    exact r.ent c o q n1 n2
  · obtain ⟨us, q⟩ := r.dom c f
    exact ⟨us, by rw [upd_ne (fun z : c = a => nF (z ▸ f))]; exact q⟩
/-- own, lock: the same to the heap -/
theorem Rp.swap {i : Nat} {s t : SV} (r : Rp K g F ss sl σ H) (e : sl[i]? = some s) (ho : s.ow = true) (hs : ∀ x, RS K g F H s x → RS K g F H t x) : Rp K g F ss (sl.set i t) σ H := by
  have hi : i < sl.length := (List.getElem?_eq_some_iff.mp e).1
  refine ⟨by rw [List.length_set]; exact r.len, fun j u ej => ?_, fun j l u w c hne ej el os ot eσ => ?_, r.ent, r.frz, r.dom, r.fe, r.fC, r.eS, r.src⟩
  · by_cases hj : i = j
    · subst hj
      rw [List.getElem?_set_self hi] at ej
      cases ej
      obtain ⟨x, e1, h⟩ := r.slot i s e
      exact ⟨x, e1, hs x h⟩
    · rw [List.getElem?_set_ne hj] at ej
      exact r.slot j u ej
  · have old : ∀ {k : Nat} {u : SV}, (sl.set i t)[k]? = some u → u.ow = true → ∃ t', sl[k]? = some t' ∧ t'.ow = true := fun {k u} q o => by
      by_cases hk : i = k
      · subst hk; exact ⟨_, e, ho⟩
      · rw [List.getElem?_set_ne hk] at q; exact ⟨u, q, o⟩
    obtain ⟨t', q1, q2⟩ := old ej os
    obtain ⟨u', q3, q4⟩ := old el ot
    exact r.apart j l t' u' c hne q1 q3 q2 q4 eσ
/-- freezing -/
theorem Rp.freeze {i : Nat} (r : Rp K g F ss sl σ H) : ∃ F', Rp K g F' ss (frzS sl i) σ H ∧ Ke K F F' H H ∧ Lk sl (frzS sl i) σ σ H H := by
  unfold frzS
  split
  · rename_i xs e
    obtain ⟨x, e1, a, vs, rfl, h1, h2, h3, h4, h5⟩ := r.slot i _ e
    have ke : Ke K F (fun b => F b ∨ b = a) H H := ⟨fun _ _ h => h, fun _ _ f h => ⟨.inl f, h⟩⟩
    have hi : i < sl.length := (List.getElem?_eq_some_iff.mp e).1
    refine ⟨fun b => F b ∨ b = a, ⟨by rw [List.length_set]; exact r.len, fun j t ej => ?_, fun j l u w c hne ej el os ot eσ => ?_, r.ent, fun b f => ?_, fun b f => ?_, fun b f => .inl (r.fe b f), fun f => ?_, r.eS, r.src⟩, ke, Lk.set0 (fun _ q => by cases q) fun _ _ _ _ _ _ => rfl⟩
    · by_cases hj : i = j
      · subst hj
        rw [List.getElem?_set_self hi] at ej
        cases ej
        exact ⟨_, e1, _, rfl, .lst (.inr rfl) h1 (h2.keep ke)⟩
      · rw [List.getElem?_set_ne hj] at ej
        obtain ⟨x, e2, h⟩ := r.slot j t ej
        refine ⟨x, e2, ?_⟩
        have na : ∀ {b : Addr}, t.ow = true → x = some (.ref b) → b ≠ a := fun {b} ho q z => by
          subst z
          rw [q] at e2
          exact r.apart i j _ t b hj e ej rfl ho e1 e2
        have nf : ∀ {b : Addr}, t.ow = true → x = some (.ref b) → ¬ F b → ¬ (F b ∨ b = a) := fun ho q n z => z.elim n (na ho q)
        cases t with
        | un => trivial
        | v d => obtain ⟨v, q, h⟩ := h; exact ⟨v, q, h.keep ke⟩
        | own zs => obtain ⟨b, us, q, k1, k2, k3, k4⟩ := h; exact ⟨b, us, q, k1, k2.keep ke, nf rfl q k3, k4⟩
        | lock zs => obtain ⟨b, us, q, k1, k2, k3, k4⟩ := h; exact ⟨b, us, q, k1, k2.keep ke, nf rfl q k3, k4⟩
        | dk zs => obtain ⟨b, us, q, k1, k2, k3⟩ := h; exact ⟨b, us, q, k1, Paired.mapP k2 fun _ _ z => ⟨z.1, z.2.keep ke⟩, k3⟩
        | dt zs => obtain ⟨b, us, q, k1, k2, k3⟩ := h; exact ⟨b, us, q, k1, Paired.mapP k2 fun _ _ z => ⟨z.1, z.2.keep ke⟩, k3⟩
        | src => exact h
    · have old : ∀ {k : Nat} {u : SV}, (sl.set i (.v (.list xs)))[k]? = some u → u.ow = true → sl[k]? = some u := fun {k u} q o => by
        by_cases hk : i = k
        · subst hk; rw [List.getElem?_set_self hi] at q; cases q; cases o
        · rw [List.getElem?_set_ne hk] at q; exact q
      exact r.apart j l u w c hne (old ej os) (old el ot) os ot eσ
    · rcases f with f | rfl
      · exact r.frz b f
      · exact .inr h5
    · rcases f with f | rfl
      · exact r.dom b f
      · exact ⟨vs, h1⟩
    · rcases f with f | f
      · exact r.fC f
      · exact h4 f.symm
  · exact ⟨F, r, .refl, .refl⟩
theorem Lk.kill {js : List Nat} : Lk sl (killS js sl) σ σ H H := by
  induction js with
  | nil => exact .refl
  | cons j js ih => exact ih.trans (Lk.set0 (fun _ q => by cases q) fun _ _ _ _ _ _ => rfl)
/-- expressions leave the locked lists alone -/
theorem Lk.gr (r : Rp K g F ss sl σ H) (gr : Gr g F F' H H') : Lk sl sl σ σ H H' := fun i xs h => ⟨h, rfl, fun a e => by
  obtain ⟨x, e1, b, vs, z, h1, h2, h3, h4, h5⟩ := r.slot i _ h
  rw [e] at e1
  cases e1
  cases z
  rw [gr.keep a _ h1 (fun q => by rw [q, r.src.1] at h1; cases h1) h4, h1]⟩
/-- from the def's entry -/
theorem Rp.entry (r : Rp K g F ss sl σ H) : Gr g g.Fe F g.He H := by
  obtain ⟨s, hs⟩ := r.eS
  exact ⟨r.ent, r.fe, r.frz, r.dom, r.fC, s, ss, hs, r.src⟩
/-! ### readings -/
variable (K g) in
/-- what a statement came to -/
def Po (D : Ends) (F : Addr → Prop) (sl : List SV) (σ : L2.St) (H : Hp) : Out → Prop
  | .nx sl' ss' => ∀ σ' H' F', Rp K g F' ss' sl' σ' H' → Ke K F F' H H' → Lk sl sl' σ σ' H H' → D.nx σ' H'
  | .rt r ss' => ∀ x H' F', Gr g g.Fe F' g.He H' → SrcOk g.A g.C ss' H' → RR K g F' g.He H' r x → D.rt x H'
variable (K g) in
def LS (m : List SV → SS → Option Out) : TS := fun D σ H => ∃ F ss sl out, m sl ss = some out ∧ Rp K g F ss sl σ H ∧ Po K g D F sl σ H out
theorem Po.trans {D : Ends} {F1 : Addr → Prop} {sl1 : List SV} {σ1 : L2.St} {H1 : Hp} {out : Out} (p : Po K g D F sl σ H out) (k : Ke K F F1 H H1) (l : Lk sl sl1 σ σ1 H H1) : Po K g D F1 sl1 σ1 H1 out := by
  cases out with
  | nx sl' ss' => exact fun σ' H' F' r k' l' => p σ' H' F' r (k.trans k') (l.trans l')
  | rt r ss' => exact p
theorem Po.gr {D : Ends} {out : Out} (p : Po K g D F sl σ H out) (r : Rp K g F ss sl σ H) (gr : Gr g F F' H H') : Po K g D F' sl σ H' out := p.trans (gr.ke r.fC) (Lk.gr r gr)
theorem Po.nx {D : Ends} (p : Po K g D F sl σ H (.nx sl' ss')) {σ' : L2.St} (r : Rp K g F' ss' sl' σ' H') (k : Ke K F F' H H') (l : Lk sl sl' σ σ' H H') : D.nx σ' H' := p σ' H' F' r k l
end
section
variable {X : Cx} {g : G} {st : Stmt} {sts : List Stmt} {t t' : TS} {m m' : List SV → SS → Option Out}
theorem PS.imp (h : PS X st t) (i : ∀ D σ H, t' D σ H → t D σ H) : PS X st t' := ⟨fun pins s σ H D I q => h.run pins s σ H D I (i D σ H q)⟩
theorem PSs.imp (h : PSs X sts t) (i : ∀ D σ H, t' D σ H → t D σ H) : PSs X sts t' := ⟨fun pins s σ H D I q => h.run pins s σ H D I (i D σ H q)⟩
variable (X g) in
/-- the reading where the slots are these -/
def LSs (m : SS → Option Out) (sl : List SV) : TS := fun D σ H => ∃ F ss out, m ss = some out ∧ Rp X.K g F ss sl σ H ∧ Po X.K g D F sl σ H out
theorem PS.ofSl (h : ∀ sl, PS X st (LSs X g (m sl) sl)) : PS X st (LS X.K g m) := ⟨fun pins s σ H D I q => by
  obtain ⟨F, ss, sl, out, e, rp, k⟩ := q
  exact (h sl).run pins s σ H D I ⟨F, ss, out, e, rp, k⟩⟩
/-- a statement, then the rest -/
theorem LS.seq {D : Ends} {σ : L2.St} {H : Hp} (h : LS X.K g (fun sl ss => match m sl ss with | some (.nx sl ss) => m' sl ss | r => r) D σ H) : tSeq (LS X.K g m) (LS X.K g m') D σ H := by
  obtain ⟨F, ss, sl, out, e, rp, k⟩ := h
  have e : (match m sl ss with | some (.nx sl ss) => m' sl ss | r => r) = some out := e
  cases e1 : m sl ss with
  | none => rw [e1] at e; cases e
  | some o =>
    rw [e1] at e
    refine ⟨F, ss, sl, o, e1, rp, ?_⟩
    cases o with
    | nx sl1 ss1 => exact fun σ' H' F' r k' l' => ⟨F', ss1, sl1, out, e, r, k.trans k' l'⟩
    | rt r ss1 =>
      have e : some (Out.rt r ss1) = some out := e
      cases e
      exact k
end
end Pm
namespace Pm
open PySem PySem.Spec PyProof.Rows L2
section
variable {K : PySem.W.Frag} {g : G} {F F' : Addr → Prop} {H H' H0 : Hp} {ss ss' : SS} {sl sl' : List SV} {σ σ' : L2.St}
theorem setS_of {i : Nat} {s : SV} (e : setS sl i s = some sl') : sl' = sl.set i s ∧ i < sl.length := by
  unfold setS at e
  split at e <;> cases e
  exact ⟨rfl, ‹_›⟩
mutual
theorem bindT_lock : ∀ (t : TGt) (d : D) (sl sl' : List SV), bindT t d sl = some sl' → ∀ j xs, sl'[j]? = some (.lock xs) → sl[j]? = some (.lock xs) ∧ j ∉ t.slots
  | .one i, d, sl, sl', e, j, xs, h => by
    obtain ⟨rfl, hi⟩ := setS_of e
    by_cases hj : i = j
    · subst hj; rw [List.getElem?_set_self hi] at h; cases h
    · rw [List.getElem?_set_ne hj] at h; exact ⟨h, by simp [TGt.slots, Ne.symm hj]⟩
  | .tup ts, d, sl, sl', e, j, xs, h => by
    cases d with
    | tuple ds => exact bindTs_lock ts ds sl sl' e j xs h
    | _ => cases e
theorem bindTs_lock : ∀ (ts : List TGt) (ds : List D) (sl sl' : List SV), bindTs ts ds sl = some sl' → ∀ j xs, sl'[j]? = some (.lock xs) → sl[j]? = some (.lock xs) ∧ j ∉ TGt.slotss ts
  | [], [], sl, sl', e, j, xs, h => by cases e; exact ⟨h, by simp [TGt.slotss]⟩
  | t :: ts, d :: ds, sl, sl', e, j, xs, h => by
    obtain ⟨sl1, e1, e2⟩ := bind_of e
    obtain ⟨h1, h2⟩ := bindTs_lock ts ds sl1 sl' e2 j xs h
    obtain ⟨h3, h4⟩ := bindT_lock t d sl sl1 e1 j xs h1
    exact ⟨h3, by simp only [TGt.slotss, List.mem_append, not_or]; exact ⟨h4, h2⟩⟩
  | [], _ :: _, sl, sl', e, j, xs, h => by cases e
  | _ :: _, [], sl, sl', e, j, xs, h => by cases e
end
theorem Lk.bind {t : TGt} {d : D} (e : bindT t d sl = some sl') (h : ∀ j, j ∉ t.slots → σ'[j]? = σ[j]? ∧ sl'[j]? = sl[j]?) : Lk sl sl' σ σ' H H := fun j xs q =>
  let ⟨h1, h2⟩ := bindT_lock t d sl sl' e j xs q
  ⟨h1, (h j h2).1, fun _ _ => rfl⟩
/-- a list of one's own, where it lies -/
theorem Rp.ownAt {i : Nat} {xs : List D} (r : Rp K g F ss sl σ H) (e : sl[i]? = some (.own xs)) : ∃ a vs, σ[i]? = some (some (.ref a)) ∧ H a = some (.lst vs) ∧ FDs K F H vs xs := by
  obtain ⟨x, e1, a, vs, rfl, h1, h2, h3⟩ := r.slot i _ e
  exact ⟨a, vs, e1, h1, h2⟩
end
section
variable {X : Cx} {g : G} {sl : List SV} {D : Ends} {σ : L2.St} {H : Hp}
/-- name = e -/
theorem LSs.set {m : SS → O R} {i : Nat} (h : LSs X g (fun ss => toSet (m ss) sl i) sl D σ H) : tAsg (LE X.K g m sl) (gName i) D σ H := by
  obtain ⟨F, ss, out, e, rp, k⟩ := h
  obtain ⟨⟨r, s1⟩, e1, e⟩ := bind_of e
  obtain ⟨s, e2, e⟩ := bind_of e
  obtain ⟨sl', e3, e4⟩ := map_of e
  cases e4
  obtain ⟨rfl, hi⟩ := setS_of e3
  refine ⟨F, ss, r, s1, e1, rp, fun x H1 F1 g1 p1 h1 => ?_⟩
  obtain ⟨q, hl⟩ := h1.toSlot (i := i) rp p1 e2
  exact k _ _ _ q (g1.ke rp.fC) ((Lk.gr rp g1).trans (.set hl))
/-- (a, b, ..) = e -/
theorem LSs.unp {m : SS → O R} {ts : List TGt} (h : LSs X g (fun ss => (toD (m ss)).bind fun p => (bindT (.tup ts) p.1 sl).map fun sl => .nx sl p.2) sl D σ H) : tAsg (LE X.K g m sl) (LG X.K g (.tup ts)) D σ H := by
  obtain ⟨F, ss, out, e, rp, k⟩ := h
  obtain ⟨⟨d, s1⟩, e1, e⟩ := bind_of e
  obtain ⟨sl', e3, e4⟩ := map_of e
  cases e4
  obtain ⟨r, e5, e6⟩ := O.f_of e1
  refine ⟨F, ss, r, s1, e5, rp, fun x H1 F1 g1 p1 h1 => ?_⟩
  have fd : FD X.K F1 H1 x d := by
    rcases h1.rd e6 with h | ⟨a, vs, xs, rfl, _⟩
    · exact h
    · cases e3
  exact ⟨F1, s1, sl, d, sl', p1, fd, e3, fun σ' r' _ hs => k σ' H1 F1 r' (g1.ke rp.fC) ((Lk.gr rp g1).trans (Lk.bind e3 hs))⟩
/-- a value kept -/
theorem RR.esc' {K : PySem.W.Frag} {F F1 : Addr → Prop} {ss ss1 : SS} {H1 : Hp} {r : R} {x : V} {d : Pm.D} (h : RR K g F1 H H1 r x) (e : Pm.esc r = some d) (g1 : Gr g F F1 H H1) (rp : Rp K g F ss sl σ H) (p1 : Rp K g F1 ss1 sl σ H1) : ∃ F2, Gr g F F2 H H1 ∧ Rp K g F2 ss1 sl σ H1 ∧ FD K F2 H1 x d := by
  obtain ⟨F2, g2, f2⟩ := h.esc e g1
  exact ⟨F2, g2, rp.step g2 p1.src, f2⟩
theorem ownL_of {i : Nat} {xs : List Pm.D} (e : ownL sl[i]? = some xs) : sl[i]? = some (.own xs) := by
  unfold ownL at e
  split at e <;> cases e
  assumption
/-- x.append(e) -/
theorem LSs.app {m : SS → O R} {i : Nat} (h : LSs X g (fun ss => (toE (m ss)).bind fun p => (ownL sl[i]?).bind fun xs => if xs.length < SL then some (.nx (sl.set i (.own (xs ++ [p.1]))) p.2) else none) sl D σ H) :
    tDrop (tBM X.K "list" rAppend (tVar i) (tCons (LE X.K g m sl) tNil)) D σ H := by
  obtain ⟨F, ss, out, e, rp, k⟩ := h
  obtain ⟨⟨d, s1⟩, e1, e⟩ := bind_of e
  obtain ⟨xs, e2, e⟩ := bind_of e
  have e2 := ownL_of e2
  have e : (if xs.length < SL then some (Out.nx (sl.set i (.own (xs ++ [d]))) s1) else none) = some out := e
  by_cases hl : xs.length < SL
  case neg => rw [if_neg hl] at e; cases e
  rw [if_pos hl] at e
  cases e
  obtain ⟨r, e5, e6⟩ := O.f_of e1
  obtain ⟨a, vs, ea, ha, _⟩ := rp.ownAt e2
  refine ⟨_, ea, .inl ⟨rfl, vs, .of ha⟩, F, ss, r, s1, e5, rp, fun x H1 F1 g1 p1 h1 => ?_⟩
  obtain ⟨F2, g2, p2, f2⟩ := h1.esc' e6 g1 rp p1
  obtain ⟨a', vs', ea', ha', hv⟩ := p2.ownAt e2
  rw [ea] at ea'
  cases ea'
  obtain ⟨w1, w2, w3⟩ := p2.write e2 ea ha' (hv.append (.one f2))
  exact ⟨a, vs', x, rfl, rfl, ha', by rw [hv.length, SL_eq]; exact hl, k.nx w1 ((g2.ke rp.fC).trans w2) ((Lk.gr rp g2).trans w3)⟩
/-- x.extend(e) -/
theorem LSs.ext {m : SS → O R} {i : Nat} (h : LSs X g (fun ss => (toD (m ss)).bind fun p => (ownL sl[i]?).bind fun xs => match p.1 with
    | .list ys => if xs.length + ys.length ≤ SL then some (.nx (sl.set i (.own (xs ++ ys))) p.2) else none
    | _ => none) sl D σ H) : tDrop (tBM X.K "list" rExtend (tVar i) (tCons (LE X.K g m sl) tNil)) D σ H := by
  obtain ⟨F, ss, out, e, rp, k⟩ := h
  obtain ⟨⟨d, s1⟩, e1, e⟩ := bind_of e
  obtain ⟨xs, e2, e⟩ := bind_of e
  have e2 := ownL_of e2
  obtain ⟨ys, rfl⟩ : ∃ ys, d = .list ys := by cases d <;> first | (cases e; done) | exact ⟨_, rfl⟩
  have e : (if xs.length + ys.length ≤ SL then some (Out.nx (sl.set i (.own (xs ++ ys))) s1) else none) = some out := e
  by_cases hl : xs.length + ys.length ≤ SL
  case neg => rw [if_neg hl] at e; cases e
  rw [if_pos hl] at e
  cases e
  obtain ⟨r, e5, e6⟩ := O.f_of e1
  obtain ⟨a, vs, ea, ha, _⟩ := rp.ownAt e2
  refine ⟨_, ea, .inl ⟨rfl, vs, .of ha⟩, F, ss, r, s1, e5, rp, fun x H1 F1 g1 p1 h1 => ?_⟩
  obtain ⟨b, us, rfl, hb, hu⟩ : ∃ b us, x = .ref b ∧ H1 b = some (.lst us) ∧ FDs X.K F1 H1 us ys := by
    rcases h1.rd e6 with h | ⟨a, vs, xs, ex, e1, e2, e3⟩
    · cases h with | lst f e r => exact ⟨_, _, rfl, e, r⟩
    · cases ex; exact ⟨_, _, e1, e2, e3⟩
  obtain ⟨a', vs', ea', ha', hv⟩ := p1.ownAt e2
  rw [ea] at ea'
  cases ea'
  obtain ⟨w1, w2, w3⟩ := p1.write e2 ea ha' (hv.append hu)
  exact ⟨a, b, vs', us, rfl, rfl, ha', hb, by rw [hv.length, hu.length, SL_eq]; exact hl, k.nx w1 ((g1.ke rp.fC).trans w2) ((Lk.gr rp g1).trans w3)⟩
/-- e alone -/
theorem LSs.exp {m : SS → O R} (h : LSs X g (fun ss => (m ss).bind fun p => some (.nx sl p.2)) sl D σ H) : tDrop (LE X.K g m sl) D σ H := by
  obtain ⟨F, ss, out, e, rp, k⟩ := h
  obtain ⟨⟨d, s1⟩, e1, e⟩ := bind_of e
  cases e
  exact ⟨F, ss, d, s1, e1, rp, fun x H1 F1 g1 p1 h1 => k.nx p1 (g1.ke rp.fC) (Lk.gr rp g1)⟩
/-- return e -/
theorem LSs.ret {m : SS → O R} (h : LSs X g (fun ss => ((m ss).f retR).bind fun p => some (.rt p.1 p.2)) sl D σ H) : tRet (LE X.K g m sl) D σ H := by
  obtain ⟨F, ss, out, e, rp, k⟩ := h
  obtain ⟨⟨r', s1⟩, e1, e⟩ := bind_of e
  cases e
  obtain ⟨r, e5, e6⟩ := O.f_of e1
  refine ⟨F, ss, r, s1, e5, rp, fun x H1 F1 g1 p1 h1 => k x H1 F1 p1.entry p1.src ?_⟩
  have h2 := h1.early rp.entry
  cases r <;> first | (cases e6; done) | skip
  · cases e6; exact h2
  · cases e6; exact h2
  · cases e6; obtain ⟨a, vs, q0, q1, q2, q3, q4, q5⟩ := h2; exact ⟨a, vs, q0, q1, q2, q5, q4⟩
  · cases e6; exact h2
theorem LSs.retn (h : LSs X g (fun ss => some (.rt (.v .none) ss)) sl D σ H) : tRetN D σ H := by
  obtain ⟨F, ss, out, e, rp, k⟩ := h
  cases e
  exact k _ H F rp.entry rp.src .non
/-- if -/
theorem LSs.ite {c : SS → O Bool} {a b : List SV → SS → Option Out} (h : LSs X g (fun ss => (c ss).bind fun p => if p.1 then a sl p.2 else b sl p.2) sl D σ H) : tIfS (LT X.K g c sl) (LS X.K g a) (LS X.K g b) D σ H := by
  obtain ⟨F, ss, out, e, rp, k⟩ := h
  obtain ⟨⟨r, s1⟩, e1, e⟩ := bind_of e
  refine ⟨F, ss, r, s1, e1, rp, fun H1 F1 g1 p1 => ?_⟩
  cases r with
  | true => exact ⟨F1, s1, sl, out, e, p1, k.gr rp g1⟩
  | false => exact ⟨F1, s1, sl, out, e, p1, k.gr rp g1⟩
theorem ixN_get {n : Nat} {k : Int} {j : Nat} (h : ixN n k = some j) : j < n := (ixN_seq h).2.1
theorem stoD_of {i : Nat} {k d : Pm.D} {sl' : List SV} (e : stoD sl i k d = some sl') : ∃ xs k' j, sl[i]? = some (.own xs) ∧ k = .int k' ∧ ixN xs.length k' = some j ∧ sl' = sl.set i (.own (xs.set j d)) := by
  unfold stoD at e
  split at e
  · obtain ⟨j, e1, rfl⟩ := map_of e
    exact ⟨_, _, j, by assumption, rfl, e1, rfl⟩
  · cases e
/-- x[k] = e: the store -/
theorem sub_go {K : PySem.W.Frag} {F : Addr → Prop} {ss : SS} {H : Hp} {i : Nat} {mk : SS → O R} {k d : Pm.D} {s : SS} {sl' : List SV} {v : V} {Q : L2.St → Hp → Prop} (ek : toD (mk ss) = some (k, s)) (e : stoD sl i k d = some sl') (rp : Rp K g F ss sl σ H) (hv : FD K F H v d)
    (q : ∀ H' F', Rp K g F' s sl' σ H' → Ke K F F' H H' → Lk sl sl' σ σ H H' → Q σ H') : gSub (tVar i) (LE K g mk sl) rSetL v σ H Q := by
  obtain ⟨xs, k', j, e1, rfl, e2, rfl⟩ := stoD_of e
  obtain ⟨a, vs, ea, ha, _⟩ := rp.ownAt e1
  obtain ⟨r, e5, e6⟩ := O.f_of ek
  refine ⟨_, ea, F, ss, r, s, e5, rp, fun x H1 F1 g1 p1 h1 => ?_⟩
  obtain rfl := (h1.rd e6).int
  obtain ⟨a', vs', ea', ha', hvs⟩ := p1.ownAt e1
  rw [ea] at ea'
  cases ea'
  obtain ⟨w1, w2, w3⟩ := p1.write e1 ea ha' (hvs.set (hv.keep (g1.ke rp.fC)) j)
  exact ⟨a, vs', k', j, rfl, rfl, ha', by rw [hvs.length]; exact e2, q _ _ w1 ((g1.ke rp.fC).trans w2) ((Lk.gr rp g1).trans w3)⟩
theorem LSs.sto {m mk : SS → O R} {i : Nat} (h : LSs X g (fun ss => (toE (m ss)).bind fun p => (toD (mk p.2)).bind fun q => (stoD sl i q.1 p.1).map fun sl => .nx sl q.2) sl D σ H) :
    tAsg (LE X.K g m sl) (gSub (tVar i) (LE X.K g mk sl) rSetL) D σ H := by
  obtain ⟨F, ss, out, e, rp, k⟩ := h
  obtain ⟨⟨d, s1⟩, e1, e⟩ := bind_of e
  obtain ⟨⟨kd, s2⟩, e2, e⟩ := bind_of e
  obtain ⟨sl', e3, e4⟩ := map_of e
  cases e4
  obtain ⟨r, e5, e6⟩ := O.f_of e1
  refine ⟨F, ss, r, s1, e5, rp, fun x H1 F1 g1 p1 h1 => ?_⟩
  obtain ⟨F2, g2, p2, f2⟩ := h1.esc' e6 g1 rp p1
  exact sub_go e2 e3 p2 f2 fun H' F' r k1 l1 => k.nx r ((g2.ke rp.fC).trans k1) ((Lk.gr rp g2).trans l1)
/-- d[k] = e -/
theorem LSs.dput {m mk : SS → O R} {i : Nat} (h : LSs X g (fun ss => (toE (m ss)).bind fun p => (toD (mk p.2)).bind fun q => (dputD sl i q.1 p.1).map fun sl => .nx sl q.2) sl D σ H) :
    sDPut (tVar i) (LE X.K g mk sl) (LE X.K g m sl) D σ H := by
  obtain ⟨F, ss, out, e, rp, k⟩ := h
  obtain ⟨⟨d, s1⟩, e1, e⟩ := bind_of e
  obtain ⟨⟨kd, s2⟩, e2, e⟩ := bind_of e
  obtain ⟨sl', e3, e4⟩ := map_of e
  cases e4
  obtain ⟨kvs, e7, e3⟩ := bind_of e3
  obtain ⟨key, e8, e3⟩ := bind_of e3
  have hl : kvs.length < SL := by
    split at e3
    · assumption
    · cases e3
  rw [if_pos hl] at e3
  cases e3
  obtain ⟨r, e5, e6⟩ := O.f_of e1
  obtain ⟨rk, e9, e10⟩ := O.f_of e2
  refine ⟨F, ss, r, s1, e5, rp, fun x H1 F1 g1 p1 h1 => ?_⟩
  obtain ⟨F2, g2, p2, f2⟩ := h1.esc' e6 g1 rp p1
  obtain ⟨a, _, ea, _, _⟩ := rp.dkSlot e7
  refine ⟨_, ea, F2, s1, rk, _, e9, p2, fun y H3 F3 g3 p3 h3 => ?_⟩
  obtain ⟨a', vvs, ea', ha, hk⟩ := p3.dkSlot e7
  rw [ea] at ea'
  cases ea'
  obtain rfl := keyOf_rd (h3.rd e10) e8
  obtain ⟨w1, w2, w3⟩ := p3.writeK (dkAt_of e7) ea ha (kvs_put key (f2.keep (g3.ke p2.fC)) hk)
  refine ⟨a, _, rfl, DPut.k ha (by rw [Paired.length hk, SL_eq]; exact hl), k.nx w1 (((g2.ke rp.fC).trans (g3.ke p2.fC)).trans w2) (((Lk.gr rp g2).trans (Lk.gr p2 g3)).trans w3)⟩
/-- x[k], y[l] = e, f -/
theorem LSs.sto2 {m1 m2 : SS → O R} {mk ml : List SV → SS → O R} {i j : Nat} (h : LSs X g (fun ss => (toE (m1 ss)).bind fun p => (toE (m2 p.2)).bind fun q => (toD (mk sl q.2)).bind fun t => (stoD sl i t.1 p.1).bind fun sl =>
      (toD (ml sl t.2)).bind fun u => (stoD sl j u.1 q.1).map fun sl => .nx sl u.2) sl D σ H) :
    tAsg (tTup (tCons (LE X.K g m1 sl) (tCons (LE X.K g m2 sl) tNil))) (gTup X.K 2 (gCons (gSub (tVar i) (LE X.K g (mk sl) sl) rSetL) (gCons (fun v σ H Q => ∃ sl', gSub (tVar j) (LE X.K g (ml sl') sl') rSetL v σ H Q) gNil))) D σ H := by
  obtain ⟨F, ss, out, e, rp, k⟩ := h
  obtain ⟨⟨d1, s1⟩, e1, e⟩ := bind_of e
  obtain ⟨⟨d2, s2⟩, e2, e⟩ := bind_of e
  obtain ⟨⟨k1, s3⟩, e3, e⟩ := bind_of e
  obtain ⟨sl1, e4, e⟩ := bind_of e
  obtain ⟨⟨k2, s4⟩, e5, e⟩ := bind_of e
  obtain ⟨sl2, e6, e7⟩ := map_of e
  cases e7
  obtain ⟨r1, a1, b1⟩ := O.f_of e1
  obtain ⟨r2, a2, b2⟩ := O.f_of e2
  refine ⟨F, ss, r1, s1, a1, rp, fun x H1 F1 g1 p1 h1 => ?_⟩
  obtain ⟨F2, g2, p2, f2⟩ := h1.esc' b1 g1 rp p1
  refine ⟨F2, s1, r2, s2, a2, p2, fun y H2 F3 g3 p3 h3 => ?_⟩
  obtain ⟨F4, g4, p4, f4⟩ := h3.esc' b2 g3 p2 p3
  refine ⟨by show 2 ≤ sizeLine; decide, fun p hp => ?_⟩
  have g5 := p4.grUpd (o := .tup [x, y]) hp
  have p5 := p4.step g5 (p4.src.upd (p4.srcNe hp).1 (p4.srcNe hp).2)
  have k45 : Ke X.K F4 F4 H2 _ := g5.ke p4.fC
  refine ⟨p, [x, y], rfl, .of upd_same, rfl, _, _, rfl, ?_⟩
  refine sub_go e3 e4 p5 ((f2.keep (g4.ke p2.fC)).keep k45) fun H6 F6 p6 k6 l6 => ?_
  refine ⟨_, _, rfl, sl1, ?_⟩
  refine sub_go e5 e6 p6 ((f4.keep k45).keep k6) fun H7 F7 p7 k7 l7 => ⟨rfl, ?_⟩
  exact k.nx p7 (((g2.ke rp.fC).trans (g4.ke p2.fC)).trans (k45.trans (k6.trans k7))) (((Lk.gr rp g2).trans (Lk.gr p2 g4)).trans ((Lk.gr p4 g5).trans (l6.trans l7)))
end
end Pm
namespace Pm
open PySem PySem.Spec PyProof.Rows L2
section
variable {X : Cx} {g : G} {sl : List SV} {D : Ends} {σ : L2.St} {H : Hp}
theorem toSs_cons {r : R} {rs : List R} {ss : List SV} (e : toSs (r :: rs) = some ss) : ∃ s t, toS r = some s ∧ toSs rs = some t ∧ ss = s :: t := by
  obtain ⟨s, e1, e⟩ := bind_of e
  obtain ⟨t, e2, e3⟩ := map_of e
  exact ⟨s, t, e1, e2, e3.symm⟩
theorem setAll_cons {j : Nat} {js : List Nat} {s : SV} {r : List SV} {sl sl' : List SV} (e : setAll (j :: js) (s :: r) sl = some sl') : setAll js r (sl.set j s) = some sl' := by
  obtain ⟨sl1, e1, e2⟩ := bind_of e
  obtain ⟨rfl, _⟩ := setS_of e1
  exact e2
theorem evs_cons {c : Pm.CE} {cs : List Pm.CE} {ss s : SS} {rs : List R} (e : evs (c :: cs) sl ss = some (rs, s)) : ∃ r t s1, ev c sl ss = some (r, s1) ∧ evs cs sl s1 = some (t, s) ∧ rs = r :: t := by
  obtain ⟨⟨r, s1⟩, e1, e⟩ := bind_of e
  obtain ⟨⟨t, s2⟩, e2, e⟩ := bind_of e
  cases e
  exact ⟨r, t, s1, e1, e2, rfl⟩
/-- a, b = e, f -/
theorem LSs.par2 {i j : Nat} {c1 c2 : Pm.CE} (h : LSs X g (fun ss => ((evs [c1, c2] sl ss).f toSs).bind fun p => (setAll [i, j] p.1 sl).map fun sl => .nx sl p.2) sl D σ H) :
    tPar i j (tCons (LE X.K g (ev c1 sl) sl) (tCons (LE X.K g (ev c2 sl) sl) tNil)) D σ H := by
  obtain ⟨F, ss, out, e, rp, k⟩ := h
  obtain ⟨⟨sv, s2⟩, e0, e⟩ := bind_of e
  obtain ⟨sl', e3, e4⟩ := map_of e
  cases e4
  obtain ⟨rs, e5, e6⟩ := O.f_of e0
  obtain ⟨r1, rs1, s1, a1, e51, rfl⟩ := evs_cons e5
  obtain ⟨r2, rs2, s2', a2, e52, rfl⟩ := evs_cons e51
  cases e52
  obtain ⟨v1, sv1, b1, e61, rfl⟩ := toSs_cons e6
  obtain ⟨v2, sv2, b2, e62, rfl⟩ := toSs_cons e61
  cases e62
  have e3 := setAll_cons (setAll_cons e3)
  cases e3
  refine ⟨F, ss, r1, s1, a1, rp, fun x H1 F1 g1 p1 h1 => ⟨F1, s1, r2, _, a2, p1, fun y H2 F2 g2 p2 h2 => ⟨x, y, rfl, ?_⟩⟩⟩
  obtain ⟨q1, l1⟩ := h1.toSlot (i := i) rp p1 b1
  have q1' := q1.step g2 p2.src
  obtain ⟨q2, l2⟩ := h2.toSlot (i := j) q1 q1' b2
  exact k.nx q2 ((g1.ke rp.fC).trans (g2.ke p1.fC)) (((Lk.gr rp g1).trans (Lk.gr p1 g2)).trans ((Lk.set l1).trans (Lk.set l2)))
theorem LSs.par3 {i j l : Nat} {c1 c2 c3 : Pm.CE} (h : LSs X g (fun ss => ((evs [c1, c2, c3] sl ss).f toSs).bind fun p => (setAll [i, j, l] p.1 sl).map fun sl => .nx sl p.2) sl D σ H) :
    tPar3 i j l (tCons (LE X.K g (ev c1 sl) sl) (tCons (LE X.K g (ev c2 sl) sl) (tCons (LE X.K g (ev c3 sl) sl) tNil))) D σ H := by
  obtain ⟨F, ss, out, e, rp, k⟩ := h
  obtain ⟨⟨sv, s2⟩, e0, e⟩ := bind_of e
  obtain ⟨sl', e3, e4⟩ := map_of e
  cases e4
  obtain ⟨rs, e5, e6⟩ := O.f_of e0
  obtain ⟨r1, rs1, s1, a1, e51, rfl⟩ := evs_cons e5
  obtain ⟨r2, rs2, s2', a2, e52, rfl⟩ := evs_cons e51
  obtain ⟨r3, rs3, s3', a3, e53, rfl⟩ := evs_cons e52
  cases e53
  obtain ⟨v1, sv1, b1, e61, rfl⟩ := toSs_cons e6
  obtain ⟨v2, sv2, b2, e62, rfl⟩ := toSs_cons e61
  obtain ⟨v3, sv3, b3, e63, rfl⟩ := toSs_cons e62
  cases e63
  have e3 := setAll_cons (setAll_cons (setAll_cons e3))
  cases e3
  refine ⟨F, ss, r1, s1, a1, rp, fun x H1 F1 g1 p1 h1 => ⟨F1, s1, r2, _, a2, p1, fun y H2 F2 g2 p2 h2 => ⟨F2, _, r3, _, a3, p2, fun z H3 F3 g3 p3 h3 => ⟨x, y, z, rfl, ?_⟩⟩⟩⟩
  obtain ⟨q1, l1⟩ := h1.toSlot (i := i) rp p1 b1
  have q1' := q1.step g2 p2.src
  obtain ⟨q2, l2⟩ := h2.toSlot (i := j) q1 q1' b2
  have q2' := q2.step g3 p3.src
  obtain ⟨q3, l3⟩ := h3.toSlot (i := l) q2 q2' b3
  exact k.nx q3 (((g1.ke rp.fC).trans (g2.ke p1.fC)).trans (g3.ke p2.fC)) ((((Lk.gr rp g1).trans (Lk.gr p1 g2)).trans (Lk.gr p2 g3)).trans (((Lk.set l1).trans (Lk.set l2)).trans (Lk.set l3)))
/-- the same by a tuple: some name is a cell -/
theorem LSs.par2c {i j : Nat} {c1 c2 : Pm.CE} (h : LSs X g (fun ss => ((evs [c1, c2] sl ss).f toSs).bind fun p => (setAll [i, j] p.1 sl).map fun sl => .nx sl p.2) sl D σ H) :
    tAsg (tTup (tCons (LE X.K g (ev c1 sl) sl) (tCons (LE X.K g (ev c2 sl) sl) tNil))) (gTup X.K 2 (gCons (gName i) (gCons (gName j) gNil))) D σ H := by
  obtain ⟨F, ss, out, e, rp, k⟩ := h
  obtain ⟨⟨sv, s2⟩, e0, e⟩ := bind_of e
  obtain ⟨sl', e3, e4⟩ := map_of e
  cases e4
  obtain ⟨rs, e5, e6⟩ := O.f_of e0
  obtain ⟨r1, rs1, s1, a1, e51, rfl⟩ := evs_cons e5
  obtain ⟨r2, rs2, s2', a2, e52, rfl⟩ := evs_cons e51
  cases e52
  obtain ⟨v1, sv1, b1, e61, rfl⟩ := toSs_cons e6
  obtain ⟨v2, sv2, b2, e62, rfl⟩ := toSs_cons e61
  cases e62
  have e3 := setAll_cons (setAll_cons e3)
  cases e3
  refine ⟨F, ss, r1, s1, a1, rp, fun x H1 F1 g1 p1 h1 => ⟨F1, s1, r2, _, a2, p1, fun y H2 F2 g2 p2 h2 => ⟨by show 2 ≤ sizeLine; decide, fun p hp => ⟨p, [x, y], rfl, .of upd_same, rfl, _, _, rfl, _, _, rfl, rfl, ?_⟩⟩⟩⟩
  obtain ⟨q1, l1⟩ := h1.toSlot (i := i) rp p1 b1
  have q1' := q1.step g2 p2.src
  obtain ⟨q2, l2⟩ := h2.toSlot (i := j) q1 q1' b2
  have g3 := q2.grUpd (o := .tup [x, y]) hp
  have q3 := q2.step g3 (q2.src.upd (q2.srcNe hp).1 (q2.srcNe hp).2)
  exact k.nx q3 (((g1.ke rp.fC).trans (g2.ke p1.fC)).trans (g3.ke q2.fC)) (((Lk.gr rp g1).trans (Lk.gr p1 g2)).trans (((Lk.set l1).trans (Lk.set l2)).trans (Lk.gr q2 g3)))
theorem LSs.par3c {i j l : Nat} {c1 c2 c3 : Pm.CE} (h : LSs X g (fun ss => ((evs [c1, c2, c3] sl ss).f toSs).bind fun p => (setAll [i, j, l] p.1 sl).map fun sl => .nx sl p.2) sl D σ H) :
    tAsg (tTup (tCons (LE X.K g (ev c1 sl) sl) (tCons (LE X.K g (ev c2 sl) sl) (tCons (LE X.K g (ev c3 sl) sl) tNil)))) (gTup X.K 3 (gCons (gName i) (gCons (gName j) (gCons (gName l) gNil)))) D σ H := by
  obtain ⟨F, ss, out, e, rp, k⟩ := h
  obtain ⟨⟨sv, s2⟩, e0, e⟩ := bind_of e
  obtain ⟨sl', e3, e4⟩ := map_of e
  cases e4
  obtain ⟨rs, e5, e6⟩ := O.f_of e0
  obtain ⟨r1, rs1, s1, a1, e51, rfl⟩ := evs_cons e5
  obtain ⟨r2, rs2, s2', a2, e52, rfl⟩ := evs_cons e51
  obtain ⟨r3, rs3, s3', a3, e53, rfl⟩ := evs_cons e52
  cases e53
  obtain ⟨v1, sv1, b1, e61, rfl⟩ := toSs_cons e6
  obtain ⟨v2, sv2, b2, e62, rfl⟩ := toSs_cons e61
  obtain ⟨v3, sv3, b3, e63, rfl⟩ := toSs_cons e62
  cases e63
  have e3 := setAll_cons (setAll_cons (setAll_cons e3))
  cases e3
  refine ⟨F, ss, r1, s1, a1, rp, fun x H1 F1 g1 p1 h1 => ⟨F1, s1, r2, _, a2, p1, fun y H2 F2 g2 p2 h2 => ⟨F2, _, r3, _, a3, p2, fun z H3 F3 g3 p3 h3 => ⟨by show 3 ≤ sizeLine; decide, fun p hp => ⟨p, [x, y, z], rfl, .of upd_same, rfl, _, _, rfl, _, _, rfl, _, _, rfl, rfl, ?_⟩⟩⟩⟩⟩
  obtain ⟨q1, l1⟩ := h1.toSlot (i := i) rp p1 b1
  have q1' := q1.step g2 p2.src
  obtain ⟨q2, l2⟩ := h2.toSlot (i := j) q1 q1' b2
  have q2' := q2.step g3 p3.src
  obtain ⟨q3, l3⟩ := h3.toSlot (i := l) q2 q2' b3
  have g4 := q3.grUpd (o := .tup [x, y, z]) hp
  have q4 := q3.step g4 (q3.src.upd (q3.srcNe hp).1 (q3.srcNe hp).2)
  exact k.nx q4 ((((g1.ke rp.fC).trans (g2.ke p1.fC)).trans (g3.ke p2.fC)).trans (g4.ke q3.fC)) ((((Lk.gr rp g1).trans (Lk.gr p1 g2)).trans (Lk.gr p2 g3)).trans ((((Lk.set l1).trans (Lk.set l2)).trans (Lk.set l3)).trans (Lk.gr q3 g4)))
/-! ### name op= e -/
def rAug : BOp → R2
  | .add => fun x y H Q => rI0 (fun i j => .int (i + j)) x y H Q ∨ rExt2 x y H Q
  | .sub => rI0 fun i j => .int (i - j)
  | .mul => rI CMul fun i j => .int (i * j)
  | .fdiv => rI CDiv fun i j => .int (i / j)
  | .mod => rI (fun _ j => 0 < j) fun i j => .int (i % j)
  | .pow => fun _ _ _ _ => False
def augOp : BOp → Operator
  | .add => .Add
  | .sub => .Sub
  | .mul => .Mult
  | .fdiv => .FloorDiv
  | .mod => .Mod
  | .pow => .Pow
theorem aug_ok {o : BOp} : PIp X (augOp o) (rAug o) := by
  intro pins s σ H x y v u Q I rx ry h
  cases o with
  | add => exact h.elim (iop_add pins s σ H x y v u Q I rx ry) (iop_ext pins s σ H x y v u Q I rx ry)
  | sub => exact iop_sub pins s σ H x y v u Q I rx ry h
  | mul => exact iop_mul pins s σ H x y v u Q I rx ry h
  | fdiv => exact iop_fdiv pins s σ H x y v u Q I rx ry h
  | mod => exact iop_mod pins s σ H x y v u Q I rx ry h
  | pow => exact h.elim
theorem augI_of {o : BOp} {x d z : Pm.D} (e : augI o x d = some z) : ∃ i j k, x = .int i ∧ d = .int j ∧ z = .int k ∧ ∀ H Q, Q (V.int k) H → rAug o (.int i) (.int j) H Q := by
  unfold augI at e
  split at e
  · cases e; exact ⟨_, _, _, rfl, rfl, rfl, fun H Q q => .inl ⟨_, _, rfl, rfl, q⟩⟩
  · cases e; exact ⟨_, _, _, rfl, rfl, rfl, fun H Q q => ⟨_, _, rfl, rfl, q⟩⟩
  · split at e <;> cases e
    rename_i hc
    refine ⟨_, _, _, rfl, rfl, rfl, fun H Q q => ⟨_, _, rfl, rfl, ?_, q⟩⟩
    unfold CMul
    rcases hc with hc | hc
    · exact .inl ⟨by omega, by omega⟩
    · exact .inr ⟨by omega, by omega⟩
  · split at e <;> cases e
    rename_i hc
    exact ⟨_, _, _, rfl, rfl, rfl, fun H Q q => ⟨_, _, rfl, rfl, hc, q⟩⟩
  · split at e <;> cases e
    rename_i hc
    exact ⟨_, _, _, rfl, rfl, rfl, fun H Q q => ⟨_, _, rfl, rfl, hc, q⟩⟩
  · cases e
theorem set_self {σ : L2.St} {i : Nat} {x : V} (e : σ[i]? = some (some x)) : σ.set i (some x) = σ := by
  apply List.ext_getElem?
  intro j
  by_cases hj : i = j
  · subst hj
    have hi := (List.getElem?_eq_some_iff.mp e).1
    rw [List.getElem?_set_self hi, e]
  · rw [List.getElem?_set_ne hj]
theorem LSs.aug {m : SS → O R} {i : Nat} {o : BOp} (h : LSs X g (fun ss => (toD (m ss)).bind fun p => (augD sl i o p.1).map fun sl => .nx sl p.2) sl D σ H) : tAug i (LE X.K g m sl) (rAug o) D σ H := by
  obtain ⟨F, ss, out, e, rp, k⟩ := h
  obtain ⟨⟨d, s1⟩, e1, e⟩ := bind_of e
  obtain ⟨sl', e3, e4⟩ := map_of e
  cases e4
  obtain ⟨r, e5, e6⟩ := O.f_of e1
  have e3 : augD sl i o d = some sl' := e3
  unfold augD at e3
  split at e3
  · rename_i x0 hs
    obtain ⟨z, e7, rfl⟩ := map_of e3
    obtain ⟨a, b, c, rfl, rfl, rfl, hq⟩ := augI_of e7
    obtain ⟨xv, ex, v, rfl, hv⟩ := rp.slot i _ hs
    cases hv
    refine ⟨_, ex, F, ss, r, s1, e5, rp, fun y H1 F1 g1 p1 h1 => ?_⟩
    obtain rfl := (h1.rd e6).int
    exact hq _ _ (k.nx (p1.setV (.int c)) (g1.ke rp.fC) ((Lk.gr rp g1).trans (Lk.set fun _ z => by cases z)))
  · rename_i xs hs
    have key : ∀ (o : BOp) (d : Pm.D), (match o, d with | .add, .list ys => if xs.length + ys.length ≤ SL then some (sl.set i (.own (xs ++ ys))) else none | _, _ => none) = some sl' → ∃ ys, o = .add ∧ d = .list ys ∧ xs.length + ys.length ≤ SL ∧ sl' = sl.set i (.own (xs ++ ys)) := by
      intro o d e
      cases o <;> try (cases e; done)
      cases d <;> try (cases e; done)
      rename_i ys
      have e : (if xs.length + ys.length ≤ SL then some (sl.set i (.own (xs ++ ys))) else none) = some sl' := e
      by_cases hl : xs.length + ys.length ≤ SL
      · rw [if_pos hl] at e; cases e; exact ⟨ys, rfl, rfl, hl, rfl⟩
      · rw [if_neg hl] at e; cases e
    obtain ⟨ys, rfl, rfl, hl, rfl⟩ := key o d e3
    obtain ⟨a, vs, ea, ha, _⟩ := rp.ownAt hs
    refine ⟨_, ea, F, ss, r, s1, e5, rp, fun y H1 F1 g1 p1 h1 => ?_⟩
    obtain ⟨b, us, rfl, hb, hu⟩ : ∃ b us, y = .ref b ∧ H1 b = some (.lst us) ∧ FDs X.K F1 H1 us ys := by
      rcases h1.rd e6 with h | ⟨a, vs, xs, ex, e1, e2, e3⟩
      · cases h with | lst f e r => exact ⟨_, _, rfl, e, r⟩
      · cases ex; exact ⟨_, _, e1, e2, e3⟩
    obtain ⟨a', vs', ea', ha', hv⟩ := p1.ownAt hs
    rw [ea] at ea'
    cases ea'
    obtain ⟨w1, w2, w3⟩ := p1.write hs ea ha' (hv.append hu)
    refine .inr ⟨a, b, vs', us, rfl, rfl, ha', hb, by rw [hv.length, hu.length, SL_eq]; exact hl, ?_⟩
    show D.nx (σ.set i (some (.ref a))) _
    rw [set_self ea]
    exact k.nx w1 ((g1.ke rp.fC).trans w2) ((Lk.gr rp g1).trans w3)
  · cases e3
/-- x[i], by values -/
def rGetL : R2 := fun o i H Q => ∃ p xs k j v, o = .ref p ∧ i = .int k ∧ H p = some (.lst xs) ∧ ixN xs.length k = some j ∧ xs[j]? = some v ∧ Q v H
theorem get_list : PGet X rGetL := by
  intro pins s σ H o i ov iv Q I ro ri h
  obtain ⟨p, xs, k, j, v, rfl, rfl, hp, hj, hv, q⟩ := h
  cases ro
  obtain ⟨t, rfl⟩ := ri
  obtain ⟨its, r, pl, hz⟩ := I.list (.of hp)
  have he : atI xs k = some v := by unfold atI; rw [show L2.ixN xs.length k = some j from hj]; exact hv
  obtain ⟨j, h1, h2, h3, h4, h5⟩ := atI_get he
  obtain ⟨w, ew, rw'⟩ := r.get h2
  have hl := r.length
  have hn := line63
  have fin : EP X pins σ Q w s := ⟨v, H, I, rw', q⟩
  by_cases h0 : 0 ≤ k
  · have hj : k.toNat = j := by
      rw [seqIndex_of h0 h5] at h1
      exact Option.some.inj h1
    exact wpAny_getItem_list pl.isList h0 (by omega) (by rw [hj]; simpa using ew) fin
  · have hj : (k + (its.toArray.size : Int)).toNat = j := by
      rw [seqIndex_neg (by omega) h4] at h1
      rw [List.size_toArray, ← hl]
      exact Option.some.inj h1
    exact wpAny_getItem_list_neg pl.isList (by omega) (by rw [List.size_toArray] <;> omega) (by omega) (by rw [hj]; simpa using ew) fin
theorem augsD_of {i : Nat} {kd d : Pm.D} {o : BOp} {sl' : List SV} (e : augsD sl i kd o d = some sl') : ∃ xs k j x z, sl[i]? = some (.own xs) ∧ kd = .int k ∧ ixN xs.length k = some j ∧ xs[j]? = some x ∧ augI o x d = some z ∧ sl' = sl.set i (.own (xs.set j z)) := by
  unfold augsD at e
  split at e
  · obtain ⟨j, e7, e⟩ := bind_of e
    obtain ⟨x0, e8, e⟩ := bind_of e
    obtain ⟨z, e9, rfl⟩ := map_of e
    exact ⟨_, _, j, x0, z, by assumption, rfl, e7, e8, e9, rfl⟩
  · cases e
theorem LSs.augs {mk m : SS → O R} {i : Nat} {o : BOp} (h : LSs X g (fun ss => (toD (mk ss)).bind fun p => (toD (m p.2)).bind fun q => (augsD sl i p.1 o q.1).map fun sl => .nx sl q.2) sl D σ H) :
    tAugS (tVar i) (LE X.K g mk sl) (LE X.K g m sl) rGetL (rAug o) rSetL D σ H := by
  obtain ⟨F, ss, out, e, rp, k⟩ := h
  obtain ⟨⟨kd, s1⟩, e1, e⟩ := bind_of e
  obtain ⟨⟨d, s2⟩, e2, e⟩ := bind_of e
  obtain ⟨sl', e3, e4⟩ := map_of e
  cases e4
  obtain ⟨rk, a1, b1⟩ := O.f_of e1
  obtain ⟨r, a2, b2⟩ := O.f_of e2
  obtain ⟨xs, kk, j, x0, z, hs, rfl, e7, e8, e9, rfl⟩ := augsD_of (show augsD sl i kd o d = some sl' from e3)
  · skip
    obtain ⟨ia, ib, ic, rfl, rfl, rfl, hq⟩ := augI_of e9
    obtain ⟨a, vs, ea, ha, _⟩ := rp.ownAt hs
    refine ⟨_, ea, F, ss, rk, s1, a1, rp, fun y H1 F1 g1 p1 h1 => ?_⟩
    obtain rfl := (h1.rd b1).int
    obtain ⟨a', vs', ea', ha', hv⟩ := p1.ownAt hs
    rw [ea] at ea'
    cases ea'
    obtain ⟨v0, ev0, fv0⟩ := hv.get e8
    cases fv0
    refine ⟨a, vs', kk, j, _, rfl, rfl, ha', by rw [hv.length]; exact e7, ev0, F1, s1, r, _, a2, p1, fun y2 H2 F2 g2 p2 h2 => ?_⟩
    obtain rfl := (h2.rd b2).int
    refine hq _ _ ?_
    obtain ⟨a2', vs2, ea2, ha2, hv2⟩ := p2.ownAt hs
    rw [ea] at ea2
    cases ea2
    obtain ⟨w1, w2, w3⟩ := p2.write hs ea ha2 (hv2.set (.int ic) j)
    exact ⟨a, vs2, kk, j, rfl, rfl, ha2, by rw [hv2.length]; exact e7, k.nx w1 (((g1.ke rp.fC).trans (g2.ke p1.fC)).trans w2) (((Lk.gr rp g1).trans (Lk.gr p1 g2)).trans w3)⟩
/-! ### x = y.pop(..) -/
theorem popAt_of {b : Bool} {xs : List Pm.D} {kd d : Pm.D} {ys : List Pm.D} (e : popAt b xs kd = some (d, ys)) :
    (b = true ∧ xs[xs.length - 1]? = some d ∧ ys = xs.dropLast) ∨ b = false ∧ ∃ k j, kd = .int k ∧ ixN xs.length k = some j ∧ xs[j]? = some d ∧ ys = xs.eraseIdx j ∧ -4611686018427387904 ≤ k ∧ k < 4611686018427387904 := by
  unfold popAt at e
  split at e
  · obtain ⟨x, e1, e2⟩ := map_of e
    cases e2
    rw [List.getLast?_eq_getElem?] at e1
    exact .inl ⟨rfl, e1, rfl⟩
  · split at e
    · rename_i k
      by_cases hk : -4611686018427387904 ≤ k ∧ k < 4611686018427387904
      case neg => rw [if_neg hk] at e; cases e
      rw [if_pos hk] at e
      obtain ⟨j, e1, e2⟩ := bind_of e
      obtain ⟨x, e3, e4⟩ := map_of e2
      cases e4
      exact .inr ⟨rfl, _, j, rfl, e1, e3, rfl, hk⟩
    · cases e
theorem FDs.dropLast {K : PySem.W.Frag} {F : Addr → Prop} {H : Hp} {vs : List V} {ds : List Pm.D} (h : FDs K F H vs ds) : FDs K F H vs.dropLast ds.dropLast := by
  rw [List.dropLast_eq_take, List.dropLast_eq_take, h.length]
  exact h.take _
theorem LSs.pop0 {i j : Nat} {c : Pm.CE} (hc : isNop c = true) (h : LSs X g (fun ss => (toD (ev c sl ss)).bind fun p => (ownL sl[i]?).bind fun xs => (popAt (isNop c) xs p.1).bind fun q => (setS (sl.set i (.own q.2)) j (.v q.1)).map fun sl => .nx sl p.2) sl D σ H) :
    tAsg (tBM0 X.K "list" rPop (tVar i)) (gName j) D σ H := by
  obtain ⟨F, ss, out, e, rp, k⟩ := h
  cases c <;> first | (cases hc; done) | skip
  have e : (ownL sl[i]?).bind (fun xs => (popAt true xs .none).bind fun q => (setS (sl.set i (.own q.2)) j (.v q.1)).map fun sl => Out.nx sl ss) = some out := e
  obtain ⟨xs, e2, e⟩ := bind_of e
  have e2 := ownL_of e2
  obtain ⟨⟨d, ys⟩, e3, e⟩ := bind_of e
  obtain ⟨sl', e4, e5⟩ := map_of e
  cases e5
  obtain ⟨rfl, _⟩ := setS_of e4
  rcases popAt_of e3 with ⟨_, e6, rfl⟩ | ⟨z, _⟩
  · obtain ⟨a, vs, ea, ha, hv⟩ := rp.ownAt e2
    refine ⟨_, ea, .inl ⟨rfl, vs, .of ha⟩, ?_⟩
    obtain ⟨v, e7, f7⟩ := hv.get e6
    obtain ⟨w1, w2, w3⟩ := rp.write e2 ea ha hv.dropLast
    exact ⟨a, vs, v, rfl, rfl, ha, by rw [hv.length]; exact e7, k.nx (w1.setV (f7.keep w2)) w2 (w3.trans (Lk.set fun _ z => by cases z))⟩
  · cases z
theorem LSs.popAt {i j : Nat} {m : SS → O R} (h : LSs X g (fun ss => (toD (m ss)).bind fun p => (ownL sl[i]?).bind fun xs => (Pm.popAt false xs p.1).bind fun q => (setS (sl.set i (.own q.2)) j (.v q.1)).map fun sl => .nx sl p.2) sl D σ H) :
    tAsg (tBM X.K "list" rPopAt (tVar i) (tCons (LE X.K g m sl) tNil)) (gName j) D σ H := by
  obtain ⟨F, ss, out, e, rp, k⟩ := h
  obtain ⟨⟨kd, s1⟩, e1, e⟩ := bind_of e
  obtain ⟨xs, e2, e⟩ := bind_of e
  have e2 := ownL_of e2
  obtain ⟨⟨d, ys⟩, e3, e⟩ := bind_of e
  obtain ⟨sl', e4, e5⟩ := map_of e
  cases e5
  obtain ⟨rfl, _⟩ := setS_of e4
  obtain ⟨r, a1, b1⟩ := O.f_of e1
  rcases popAt_of e3 with ⟨z, _⟩ | ⟨_, kk, jj, z, e6, e7, rfl, hk1, hk2⟩
  · cases z
  · have z : kd = .int kk := z
    subst z
    obtain ⟨a, vs, ea, ha, _⟩ := rp.ownAt e2
    refine ⟨_, ea, .inl ⟨rfl, vs, .of ha⟩, F, ss, r, s1, a1, rp, fun x H1 F1 g1 p1 h1 => ?_⟩
    obtain rfl := (h1.rd b1).int
    obtain ⟨a', vs', ea', ha', hv⟩ := p1.ownAt e2
    rw [ea] at ea'
    cases ea'
    obtain ⟨v, e8, f8⟩ := hv.get e7
    obtain ⟨h1', h2', h3', h4'⟩ := ixN_seq e6
    obtain ⟨w1, w2, w3⟩ := p1.write e2 ea ha' (hv.erase jj)
    exact ⟨a, vs', kk, jj, v, rfl, rfl, ha', by omega, by omega, by rw [hv.length]; exact h1', e8, k.nx (w1.setV (f8.keep w2)) ((g1.ke rp.fC).trans w2) ((Lk.gr rp g1).trans (w3.trans (Lk.set fun _ z => by cases z)))⟩
end
end Pm
namespace Pm
open PySem PySem.Spec PyProof.Rows L2
theorem isLock_of {sl : List SV} {i : Nat} (h : isLock sl i = true) : ∃ xs, sl[i]? = some (.lock xs) := by
  unfold isLock at h
  split at h
  · exact ⟨_, by assumption⟩
  · cases h
section
variable {K : PySem.W.Frag} {g : G} {F F' F1 : Addr → Prop} {H H' H1 : Hp} {ss ss1 : SS} {sl sl1 sl' : List SV} {σ σ' : L2.St} {D : Ends}
theorem CellOk.ke {c : Cell} (h : CellOk K F H c) (k : Ke K F F' H H') (hc : c.isL = true → F c.a ∨ H' c.a = H c.a) : CellOk K F' H' c := by
  refine ⟨?_, h.2.keep k⟩
  have h1 := h.1
  by_cases hl : c.isL = true
  · rw [if_pos hl] at h1 ⊢
    rcases hc hl with f | e
    · exact (k.lst _ _ f h1).2
    · rw [e]; exact h1
  · rw [if_neg hl] at h1 ⊢
    exact k.tup _ _ h1
theorem kept_of {ls : List Nat} {x : Option Out} {o : Out} (e : keptLocks ls x = some o) : x = some o ∧ ∀ sl ss, o = .nx sl ss → ∀ j ∈ ls, isLock sl j = true := by
  unfold keptLocks at e
  split at e
  · by_cases hc : ls.all (isLock ‹List SV›) = true
    · rw [if_pos hc] at e
      cases e
      refine ⟨rfl, fun sl ss z j hj => ?_⟩
      cases z
      exact List.all_eq_true.mp hc j hj
    · rw [if_neg hc] at e; cases e
  · refine ⟨e, fun sl ss z => ?_⟩
    subst z
    rename_i hn
    exact absurd e (hn sl ss)
theorem for_go {J : It} {ds : List Pm.D} {cs : List Cell} {ls : List Nat} {t : TGt} {mb : List SV → SS → Option Out} {out : Out} (wk : Wk K g J ds cs) (pc : Pcs K cs F1 H1) (r1 : Rp K g F1 ss1 sl1 σ H1)
    (hcell : ∀ c ∈ cs, c.isL = true → F1 c.a ∨ ∃ j ∈ ls, σ[j]? = some (some (.ref c.a))) (hls : ∀ j ∈ ls, isLock sl1 j = true)
    (e : forD (fun d sl' ss => (bindT t d sl').bind fun sl' => keptLocks ls (mb sl' ss)) ds sl1 ss1 = some out) (k : Po K g D F1 sl1 σ H1 out) :
    ∃ W : Nat → Nat → L2.St → Hp → Prop, (∃ m, W 0 m σ H1) ∧ ∀ i m σ H, W i m σ H →
      (J.stop i H ∧ D.nx σ H) ∨ (J.go i H ∧ ∃ N : L2.St → Hp → Prop, (∀ σ' H', N σ' H' → ∃ m', m' < m ∧ W (i + 1) m' σ' H') ∧ ∀ x H', J.yld i H x H' → LG K g t x σ H' fun σ2 H2 => LS K g mb { D with nx := N, ct := N, bk := D.nx } σ2 H2) := by
  generalize hf : (fun (d : Pm.D) (sl' : List SV) (ss : SS) => (bindT t d sl').bind fun sl' => keptLocks ls (mb sl' ss)) = f at e
  let St (i : Nat) (σ' : L2.St) (H' : Hp) : Prop := ∃ F2 ss2 sl2, i ≤ ds.length ∧ Rp K g F2 ss2 sl2 σ' H' ∧ Ke K F1 F2 H1 H' ∧ Lk sl1 sl2 σ σ' H1 H' ∧ (∀ j ∈ ls, isLock sl2 j = true) ∧ forD f (ds.drop i) sl2 ss2 = some out
  refine ⟨fun i m σ' H' => m = ds.length - i ∧ St i σ' H', ⟨_, rfl, F1, ss1, sl1, Nat.zero_le _, r1, .refl, .refl, hls, by simpa using e⟩, ?_⟩
  rintro i m σ2 H2 ⟨rfl, F2, ss2, sl2, hi, p2, k2, l2, hl2, he⟩
  have pc2 : Pcs K cs F2 H2 := fun c hc => (pc c hc).ke k2 fun hL => by
    rcases hcell c hc hL with h | ⟨j, hj, h⟩
    · exact .inl h
    · obtain ⟨xs, e2⟩ := isLock_of (hl2 j hj)
      exact .inr ((l2 j xs e2).2.2 _ h)
  by_cases hlt : i < ds.length
  · refine .inr ⟨wk.go i F2 H2 hlt pc2, St (i + 1), fun σ' H' z => ⟨_, by omega, rfl, z⟩, fun x H3 hy => ?_⟩
    obtain ⟨g3, sr3, d, hd, hx⟩ := wk.yld i F2 H2 ss2 x H3 hlt p2.at pc2 hy
    have p3 := p2.step g3 sr3
    have ed : ds.drop i = d :: ds.drop (i + 1) := by
      rw [List.drop_eq_getElem_cons hlt]
      rw [List.getElem?_eq_getElem hlt] at hd
      cases hd; rfl
    rw [ed] at he
    unfold forD at he
    obtain ⟨o1, eo, hnext⟩ : ∃ o1, f d sl2 ss2 = some o1 ∧ (match o1 with | .nx sl ss => forD f (ds.drop (i + 1)) sl ss = some out | .rt r ss => Out.rt r ss = out) := by
      cases q : f d sl2 ss2 with
      | none => rw [q] at he; cases he
      | some o1 =>
        rw [q] at he
        cases o1 with
        | nx sl ss => exact ⟨_, rfl, he⟩
        | rt r ss => exact ⟨_, rfl, Option.some.inj he⟩
    rw [← hf] at eo
    obtain ⟨sl3, eb, eo⟩ := bind_of eo
    obtain ⟨eo, ek⟩ := kept_of eo
    refine ⟨F2, ss2, sl2, d, sl3, p3, hx, eb, fun σ3 p4 _ k4 => ?_⟩
    have l4 : Lk sl2 sl3 σ2 σ3 H3 H3 := Lk.bind eb k4
    have ke3 : Ke K F1 F2 H1 H3 := k2.trans (g3.ke p2.fC)
    have lk3 : Lk sl1 sl3 σ σ3 H1 H3 := (l2.trans (Lk.gr p2 g3)).trans l4
    refine ⟨F2, ss2, sl3, o1, eo, p4, ?_⟩
    cases o1 with
    | nx sl4 ss4 => exact fun σ' H' F' r k' l' => ⟨F', ss4, sl4, hlt, r, ke3.trans k', lk3.trans l', ek _ _ rfl, hnext⟩
    | rt r ss4 =>
      have hnext : Out.rt r ss4 = out := hnext
      subst hnext
      exact k
  · have ei : i = ds.length := by omega
    subst ei
    rw [List.drop_length] at he
    cases he
    exact .inl ⟨wk.stop F2 H2 pc2, k.nx p2 k2 l2⟩
end
section
variable {X : Cx} {g : G} {sl : List SV} {D : Ends} {σ : L2.St} {H : Hp}
/-- for over what is no list of one's own -/
theorem LSs.for0 {mi : SS → O R} {t : TGt} {mb : List SV → SS → Option Out} {wi : TI} (hwi : ∀ σ H R, LI X.K g true (fun ss => toI (mi ss)) sl σ H R → wi σ H R)
    (h : LSs X g (fun ss => (toI (mi ss)).bind fun p => forD (fun d sl' ss => (bindT t d sl').bind fun sl' => keptLocks [] (mb sl' ss)) p.1 sl p.2) sl D σ H) : tFor wi (LG X.K g t) (LS X.K g mb) D σ H := by
  obtain ⟨F, ss, out, e, rp, k⟩ := h
  obtain ⟨⟨ds, s1⟩, e1, e⟩ := bind_of e
  refine hwi _ _ _ ⟨F, ss, ds, s1, e1, rp, fun J H1 F1 cs g1 p1 wk pc org => ?_⟩
  -- the walked lists are kept
  obtain ⟨F2, g2, p2, sub, hF⟩ : ∃ F2, Gr g F F2 H H1 ∧ Rp X.K g F2 s1 sl σ H1 ∧ (∀ a, F1 a → F2 a) ∧ ∀ c ∈ cs, c.isL = true → F2 c.a := by
    have oc : ∀ c ∈ cs, c.isL = true → (F1 c.a ∨ (H c.a = none ∧ ∃ vs, H1 c.a = some (.lst vs))) := fun c hc hl => by
      have h1 := (pc c hc).1
      rw [if_pos hl] at h1
      rcases org c hc hl with o | o | o
      · exact .inl o
      · exact .inr ⟨o.1, _, h1⟩
      · cases o.1
    refine ⟨fun a => F1 a ∨ ∃ c ∈ cs, c.isL = true ∧ c.a = a ∧ ¬ F1 a, ?_, ?_, fun a f => .inl f, fun c hc hl => ?_⟩
    rotate_left 2
    · by_cases hf : F1 c.a
      · exact .inl hf
      · exact .inr ⟨c, hc, hl, rfl, hf⟩
    · have G2 : Gr g F (fun a => F1 a ∨ ∃ c ∈ cs, c.isL = true ∧ c.a = a ∧ ¬ F1 a) H H1 := by
        refine ⟨g1.keep, fun a f => .inl (g1.sub a f), fun a f => ?_, fun a f => ?_, fun f => ?_, g1.src⟩
        · rcases f with f | ⟨c, hc, hl, rfl, nf⟩
          · exact g1.new a f
          · rcases oc c hc hl with o | o
            · exact absurd o nf
            · exact .inr o.1
        · rcases f with f | ⟨c, hc, hl, rfl, nf⟩
          · exact g1.dom a f
          · rcases oc c hc hl with o | o
            · exact absurd o nf
            · exact o.2
        · rcases f with f | ⟨c, hc, hl, z, nf⟩
          · exact g1.fC f
          · rcases oc c hc hl with o | o
            · exact nf (z ▸ o)
            · rw [z, rp.src.2.1] at o; cases o.1
      exact G2
    · have G2 : Gr g F (fun a => F1 a ∨ ∃ c ∈ cs, c.isL = true ∧ c.a = a ∧ ¬ F1 a) H H1 := by
        refine ⟨g1.keep, fun a f => .inl (g1.sub a f), fun a f => ?_, fun a f => ?_, fun f => ?_, g1.src⟩
        · rcases f with f | ⟨c, hc, hl, rfl, nf⟩
          · exact g1.new a f
          · rcases oc c hc hl with o | o
            · exact absurd o nf
            · exact .inr o.1
        · rcases f with f | ⟨c, hc, hl, rfl, nf⟩
          · exact g1.dom a f
          · rcases oc c hc hl with o | o
            · exact absurd o nf
            · exact o.2
        · rcases f with f | ⟨c, hc, hl, z, nf⟩
          · exact g1.fC f
          · rcases oc c hc hl with o | o
            · exact nf (z ▸ o)
            · rw [z, rp.src.2.1] at o; cases o.1
      exact rp.step G2 p1.src
  have pc2 : Pcs X.K cs F2 H1 := fun c hc => (pc c hc).ke (F' := F2) ⟨fun _ _ h => h, fun a _ f e => ⟨sub a f, e⟩⟩ fun _ => .inr rfl
  exact for_go wk pc2 p2 (fun c hc hl => .inl (hF c hc hl)) (fun _ hj => by cases hj) e (k.gr rp g2)
/-- unlocking -/
theorem unlock_po {F : Addr → Prop} {ss' : SS} {sl' : List SV} {i : Nat} {xs : List Pm.D} (hs : sl[i]? = some (.own xs)) (k : Po X.K g D F sl σ H (.nx (unlockS true sl' i) ss')) : Po X.K g D F (sl.set i (.lock xs)) σ H (.nx sl' ss') := by
  have hi : i < sl.length := (List.getElem?_eq_some_iff.mp hs).1
  intro σ' H' F' r ke lk
  by_cases hl : ∃ ys, sl'[i]? = some (.lock ys)
  · obtain ⟨ys, hl⟩ := hl
    have eu : unlockS true sl' i = sl'.set i (.own ys) := by unfold unlockS; rw [hl]
    rw [eu] at k
    have hi' : i < sl'.length := (List.getElem?_eq_some_iff.mp hl).1
    refine k.nx (r.swap hl rfl fun x z => z) ke fun j zs e => ?_
    by_cases hj : i = j
    · subst hj; rw [List.getElem?_set_self hi'] at e; cases e
    · rw [List.getElem?_set_ne hj] at e
      obtain ⟨h1, h2, h3⟩ := lk j zs e
      rw [List.getElem?_set_ne hj] at h1
      exact ⟨h1, h2, h3⟩
  · have eu : unlockS true sl' i = sl' := by
      unfold unlockS
      split
      · exact absurd ⟨_, ‹_›⟩ hl
      · rfl
    rw [eu] at k
    refine k.nx r ke fun j zs e => ?_
    by_cases hj : i = j
    · subst hj; exact absurd ⟨_, e⟩ hl
    · obtain ⟨h1, h2, h3⟩ := lk j zs e
      rw [List.getElem?_set_ne hj] at h1
      exact ⟨h1, h2, h3⟩
/-- for over a list of one's own, by its name -/
theorem LSs.for1 {i : Nat} {en : Bool} {t : TGt} {mb : List SV → SS → Option Out} {xs : List Pm.D} (hs : sl[i]? = some (.own xs) ∨ sl[i]? = some (.lock xs))
    (h : LSs X g (fun ss => match forD (fun d sl' ss => (bindT t d sl').bind fun sl' => keptLocks [i] (mb sl' ss)) (if en then enumD xs else xs) (lockS sl i) ss with
      | some (.nx sl' ss') => some (.nx (unlockS (isOwn sl i) sl' i) ss')
      | r => r) sl D σ H) : tFor (fun σ H R => tVar i σ H fun x H1 => ∃ a, x = .ref a ∧ (∃ xs, SqL X.K H1 a xs) ∧ R (if en then Ite X.K a else Itl X.K a) H1) (LG X.K g t) (LS X.K g mb) D σ H := by
  obtain ⟨F, ss, out, e, rp, k⟩ := h
  have e : (match forD (fun d sl' ss => (bindT t d sl').bind fun sl' => keptLocks [i] (mb sl' ss)) (if en then enumD xs else xs) (lockS sl i) ss with
      | some (.nx sl' ss') => some (.nx (unlockS (isOwn sl i) sl' i) ss')
      | r => r) = some out := e
  have hi : i < sl.length := hs.elim (fun h => (List.getElem?_eq_some_iff.mp h).1) fun h => (List.getElem?_eq_some_iff.mp h).1
  obtain ⟨a, vs, ea, ha, hv⟩ : ∃ a vs, σ[i]? = some (some (.ref a)) ∧ H a = some (.lst vs) ∧ FDs X.K F H vs xs := by
    rcases hs with hs | hs
    · exact rp.ownAt hs
    · obtain ⟨x, e1, a, vs, rfl, h1, h2, h3⟩ := rp.slot i _ hs
      exact ⟨a, vs, e1, h1, h2⟩
  refine ⟨_, ea, a, rfl, ⟨vs, .of ha⟩, ?_⟩
  have wk : Wk X.K g (if en = true then Ite X.K a else Itl X.K a) (if en = true then enumD xs else xs) [⟨a, true, vs, xs⟩] := by
    cases en
    · exact wk_list hv.length
    · exact wk_enum hv.length
  have pc : Pcs X.K [⟨a, true, vs, xs⟩] F H := fun c hc => by
    obtain rfl := List.mem_singleton.mp hc
    exact ⟨ha, hv⟩
  -- locked
  obtain ⟨hlk, p1, o1, eo, k1⟩ : isLock (lockS sl i) i = true ∧ Rp X.K g F ss (lockS sl i) σ H ∧ ∃ o1, forD (fun d sl' ss => (bindT t d sl').bind fun sl' => keptLocks [i] (mb sl' ss)) (if en = true then enumD xs else xs) (lockS sl i) ss = some o1 ∧ Po X.K g D F (lockS sl i) σ H o1 := by
    have hfor : ∃ o1, forD (fun d sl' ss => (bindT t d sl').bind fun sl' => keptLocks [i] (mb sl' ss)) (if en = true then enumD xs else xs) (lockS sl i) ss = some o1 ∧ (match o1 with | .nx sl' ss' => out = .nx (unlockS (isOwn sl i) sl' i) ss' | .rt r s => out = .rt r s) := by
      cases q : forD (fun d sl' ss => (bindT t d sl').bind fun sl' => keptLocks [i] (mb sl' ss)) (if en = true then enumD xs else xs) (lockS sl i) ss with
      | none => rw [q] at e; cases e
      | some o1 =>
        rw [q] at e
        cases o1 with
        | nx sl' s' => exact ⟨_, rfl, (Option.some.inj e).symm⟩
        | rt r s => exact ⟨_, rfl, (Option.some.inj e).symm⟩
    obtain ⟨o1, eo, ho⟩ := hfor
    rcases hs with hs | hs
    · have es : lockS sl i = sl.set i (.lock xs) := by unfold lockS; rw [hs]
      have eb : isOwn sl i = true := by unfold isOwn; rw [hs]
      refine ⟨by rw [es]; unfold isLock; rw [List.getElem?_set_self hi], by rw [es]; exact rp.swap hs rfl fun x z => z, o1, eo, ?_⟩
      rw [es]
      cases o1 with
      | nx sl' s' =>
        have ho : out = .nx (unlockS (isOwn sl i) sl' i) s' := ho
        rw [eb] at ho
        subst ho
        exact unlock_po hs k
      | rt r s =>
        have ho : out = .rt r s := ho
        subst ho
        exact k
    · have es : lockS sl i = sl := by unfold lockS; rw [hs]
      have eb : isOwn sl i = false := by unfold isOwn; rw [hs]
      refine ⟨by rw [es]; unfold isLock; rw [hs], by rw [es]; exact rp, o1, eo, ?_⟩
      rw [es]
      cases o1 with
      | nx sl' s' =>
        have ho : out = .nx (unlockS (isOwn sl i) sl' i) s' := ho
        rw [eb] at ho
        have : unlockS false sl' i = sl' := by unfold unlockS; rfl
        rw [this] at ho
        subst ho
        exact k
      | rt r s =>
        have ho : out = .rt r s := ho
        subst ho
        exact k
  exact for_go wk pc p1 (fun c hc _ => by obtain rfl := List.mem_singleton.mp hc; exact .inr ⟨i, List.mem_singleton.mpr rfl, ea⟩) (fun j hj => by obtain rfl := List.mem_singleton.mp hj; exact hlk) eo k1
/-- a test whatever the slots -/
def LTx (K : PySem.W.Frag) (g : G) (m : List SV → SS → O Bool) : TT := fun σ H Q => ∃ sl, LT K g (m sl) sl σ H Q
theorem pt_x {e : Expr} {m : List SV → SS → O Bool} (h : ∀ sl, PT X e (LT X.K g (m sl) sl)) : PT X e (LTx X.K g m) := ⟨fun pins s σ H Q I q => by
  obtain ⟨sl, q⟩ := q
  exact (h sl).run pins s σ H Q I q⟩
theorem LSs.whl {c : List SV → SS → O Bool} {mb : List SV → SS → Option Out} {fuel : Nat} (h : LSs X g (fun ss => whD c mb fuel sl ss) sl D σ H) : tWhile (LTx X.K g c) (LS X.K g mb) D σ H := by
  obtain ⟨F, ss, out, e, rp, k⟩ := h
  let St (n : Nat) (σ' : L2.St) (H' : Hp) : Prop := ∃ F2 ss2 sl2, Rp X.K g F2 ss2 sl2 σ' H' ∧ Ke X.K F F2 H H' ∧ Lk sl sl2 σ σ' H H' ∧ whD c mb n sl2 ss2 = some out
  refine ⟨St, ⟨fuel, F, ss, sl, rp, .refl, .refl, e⟩, ?_⟩
  rintro n σ2 H2 ⟨F2, ss2, sl2, p2, k2, l2, he⟩
  cases n with
  | zero => cases he
  | succ n =>
    unfold whD at he
    obtain ⟨⟨b, s3⟩, e1, he⟩ := bind_of he
    refine ⟨sl2, F2, ss2, b, s3, e1, p2, fun H3 F3 g3 p3 => ?_⟩
    have ke3 := k2.trans (g3.ke (K := X.K) p2.fC)
    have lk3 := l2.trans (Lk.gr p2 g3)
    cases b with
    | true =>
      refine iteT ?_
      refine ⟨St n, fun σ' H' z => ⟨n, Nat.lt_succ_self _, z⟩, ?_⟩
      have he : (match mb sl2 s3 with | some (.nx sl ss) => whD c mb n sl ss | r => r) = some out := he
      cases q : mb sl2 s3 with
      | none => rw [q] at he; cases he
      | some o1 =>
        rw [q] at he
        refine ⟨F3, s3, sl2, o1, q, p3, ?_⟩
        cases o1 with
        | nx sl4 ss4 => exact fun σ' H' F' r k' l' => ⟨F', ss4, sl4, r, ke3.trans k', lk3.trans l', he⟩
        | rt r ss4 =>
          have he : some (Out.rt r ss4) = some out := he
          cases he
          exact k
    | false =>
      refine iteF ?_
      have he : some (Out.nx sl2 s3) = some out := he
      cases he
      exact k.nx p3 ke3 lk3
end
end Pm
namespace Pm
open PySem PySem.Spec PyProof.Rows L2
def lclB (sc : Scope) (x : Str) : Bool := sc.names.lookup x == some .local
def swV (sc : Scope) (y : Str) (py : Pos) : Expr → Bool
  | .ListComp _ _ s pos => lclB sc y && py.line == pos.line && !(s.names.any fun (n, k) => n == y && (k == .local || k == .cell))
  | _ => false
def compB : Expr → Bool
  | .SetComp _ _ _ _ | .DictComp _ _ _ _ _ => true
  | _ => false
def nameB : Expr → Bool
  | .Name _ _ => true
  | _ => false
def noSwB (ts : List Expr) : Expr → Bool
  | .Tuple vs _ _ => ts.any (fun t => !nameB t) || !(ts.length == 2 || ts.length == 3) || vs.all (foldedForSure 8)
  | _ => true
/-- names stored from the right -/
def parB (sc : Scope) (xs : List Str) (vs : List Expr) : Bool :=
  xs.all (lclB sc) && (xs.eraseDups.length == xs.length) && !vs.all (foldedForSure 8) && !vs.all (constantsAlone 8) && !vs.any starB
/-- some name is a cell: no exchange -/
def parC (sc : Scope) (xs : List Str) : Bool := xs.all (locB sc) && xs.any fun x => !lclB sc x
def tupT : TGt → Bool
  | .tup _ => true
  | _ => false
mutual
def chkS (sc : Scope) (N : List Str) : CS → Stmt → Bool
  | .set i e, .Assign [.Name x py] v _ => N[i]? == some x && locB sc x && vl e && chkE sc N e v && !compB v
  | .unp t e, .Assign [.Tuple ts k p] v _ => tupT t && chkT (locB sc) N t (.Tuple ts k p) && vl e && chkE sc N e v && noSwB ts v && !compB v
  | .par js es, .Assign [.Tuple ts _ _] (.Tuple vs _ _) _ => chkA sc N es vs && (js.length == vs.length) && (match js, ts with
    | [i, j], [.Name x p, .Name y q] => N[i]? == some x && N[j]? == some y && ((p.line == q.line && parB sc [x, y] vs) || parC sc [x, y])
    | [i, j, l], [.Name x p, .Name y q, .Name z r] => N[i]? == some x && N[j]? == some y && N[l]? == some z && ((p.line == q.line && p.line == r.line && parB sc [x, y, z] vs) || parC sc [x, y, z])
    | _, _ => false)
  | .sto i k e, .Assign [.Subscript (.Name x _) ke _] v _ => N[i]? == some x && visB sc x && noDbg x && vl k && chkE sc N k ke && vl e && chkE sc N e v && !compB v
  | .dput i k e, .Assign [.Subscript (.Name x _) ke _] v _ => N[i]? == some x && visB sc x && noDbg x && vl k && chkE sc N k ke && vl e && chkE sc N e v && !compB v
  | .sto2 i k j l e f, .Assign [.Tuple [.Subscript (.Name x _) ke _, .Subscript (.Name y _) le _] _ _] (.Tuple [v, w] _ _) _ =>
      N[i]? == some x && visB sc x && noDbg x && vl k && chkE sc N k ke && N[j]? == some y && visB sc y && noDbg y && vl l && chkE sc N l le && vl e && chkE sc N e v && vl f && chkE sc N f w
  | .aug i o e, .AugAssign (.Name x _) p v _ => N[i]? == some x && locB sc x && (augOp o == p) && vl e && chkE sc N e v
  | .augs i k o e, .AugAssign (.Subscript (.Name x _) ke _) p v _ => N[i]? == some x && visB sc x && noDbg x && vl k && chkE sc N k ke && (augOp o == p) && vl e && chkE sc N e v
  | .app i e, .Expr (.Call (.Attribute (.Name x _) m ap) [a] [] cp) _ => N[i]? == some x && visB sc x && noDbg x && (m == "append") && (ap.endLine == cp.line) && vl e && chkE sc N e a
  | .ext i e, .Expr (.Call (.Attribute (.Name x _) m ap) [a] [] cp) _ => N[i]? == some x && visB sc x && noDbg x && (m == "extend") && (ap.endLine == cp.line) && vl e && chkE sc N e a
  | .popS j i k, .Assign [.Name y _] (.Call (.Attribute (.Name x _) m ap) as [] cp) _ => N[j]? == some y && locB sc y && N[i]? == some x && visB sc x && noDbg x && (m == "pop") && (ap.endLine == cp.line) && (match as with
    | [] => isNop k
    | [a] => !isNop k && vl k && chkE sc N k a
    | _ => false)
  | .exp .nop, .Expr (.Constant (.str _) _ _) _ => true
  | .exp e, .Expr v _ => vl e && chkE sc N e v && !compB v && (match v with | .ListComp _ _ _ _ => false | _ => true)
  | .ite c a b, .If t xs ys _ => vl c && chkE sc N c t && chkSs sc N a xs && chkSs sc N b ys
  | .forr t it body, .For tg iter xs [] _ => chkT (locB sc) N t tg && (!enB it || tupB tg) && chkE sc N it iter && !setB iter && (match it with
    | .loc _ => true
    | .enm (.loc _) => true
    | e => noBo e) && chkSs sc N body xs
  | .whl c body, .While t xs [] _ => vl c && chkE sc N c t && chkSs sc N body xs
  | .ret e, .Return (some v) _ => vl e && chkE sc N e v
  | .retn, .Return none _ => true
  | .never, _ => true
  | .sput k i e, .Assign [.Subscript (.Name x _) (.Constant (.str y) _ _) _] v _ => N[i]? == some x && visB sc x && noDbg x && (y == k.name) && vl e && chkE sc N e v && !compB v
  | .spop i, .Assign [.Subscript (.Name x _) (.Constant (.str y) _ _) _] (.Call (.Attribute (.Subscript (.Name z _) (.Constant (.str w) _ _) _) m ap) [] [] cp) _ =>
      N[i]? == some x && visB sc x && noDbg x && (y == "left") && (z == x) && (w == "cells") && (m == "pop") && (ap.endLine == cp.line)
  | .appPop i j e, .Expr (.Call (.Attribute (.Name x _) m ap) [.Call (.Attribute (.Name y _) n bp) [a] [] dp] [] cp) _ =>
      N[i]? == some x && visB sc x && noDbg x && (m == "append") && (ap.endLine == cp.line) && N[j]? == some y && visB sc y && noDbg y && (n == "pop") && (bp.endLine == dp.line) && vl e && chkE sc N e a
  | .rmix r s l fx _, .Return (some (.ListComp (.Call (.Attribute (.Name x _) m ap) [.Call (.Name f _) [.Name y _, .Call (.Name ln _) [.Name x' _] [] _] [] _] [] cp) [⟨.Name z _, .Call (.Name rg _) [.Call (.Name ln' _) [.Name x'' _] [] _] [] _, [], as⟩] scope _)) _ =>
      (as == 0) && blkB N sc scope [(N.getD l "", l)] && N[r]? == some x && N[s]? == some y && N[l]? == some z && locB scope z && visB (relS scope sc) x && noDbg x && visB (relS scope sc) y && noDbg y && (m == "pop") && (ap.endLine == cp.line) &&
      (f == fx) && gloB (relS scope sc) f && noDbg f && (ln == "len") && gloB (relS scope sc) ln && (x' == x) && rangeB sc rg && (ln' == "len") && gloB sc ln' && (x'' == x) && visB sc x
  | _, _ => false
def chkSs (sc : Scope) (N : List Str) : List CS → List Stmt → Bool
  | [], [] => true
  | .frz _ :: cs, ss => chkSs sc N cs ss
  | .kill _ :: cs, ss => chkSs sc N cs ss
  | c :: cs, s :: ss => chkS sc N c s && chkSs sc N cs ss
  | _, _ => false
end
mutual
def callsS : CS → List (Str × Fn)
  | .set _ e => calls e
  | .unp _ e => calls e
  | .par _ es => callss es
  | .sto _ k e => calls k ++ calls e
  | .dput _ k e => calls k ++ calls e
  | .sto2 _ k _ l e f => calls k ++ calls l ++ calls e ++ calls f
  | .aug _ _ e => calls e
  | .augs _ k _ e => calls k ++ calls e
  | .app _ e => calls e
  | .ext _ e => calls e
  | .popS _ _ k => calls k
  | .exp e => calls e
  | .ite c a b => calls c ++ callsSs a ++ callsSs b
  | .forr _ it b => calls it ++ callsSs b
  | .whl c b => calls c ++ callsSs b
  | .ret e => calls e
  | .sput _ _ e => calls e
  | .appPop _ _ e => calls e
  | .rmix _ _ _ x f => [(x, f)]
  | _ => []
def callsSs : List CS → List (Str × Fn)
  | [] => []
  | c :: cs => callsS c ++ callsSs cs
end
mutual
def globsS : CS → List (Str × D)
  | .set _ e => globs e
  | .unp _ e => globs e
  | .par _ es => globss es
  | .sto _ k e => globs k ++ globs e
  | .dput _ k e => globs k ++ globs e
  | .sto2 _ k _ l e f => globs k ++ globs l ++ globs e ++ globs f
  | .aug _ _ e => globs e
  | .augs _ k _ e => globs k ++ globs e
  | .app _ e => globs e
  | .ext _ e => globs e
  | .popS _ _ k => globs k
  | .exp e => globs e
  | .ite c a b => globs c ++ globsSs a ++ globsSs b
  | .forr _ it b => globs it ++ globsSs b
  | .whl c b => globs c ++ globsSs b
  | .ret e => globs e
  | .sput _ _ e => globs e
  | .appPop _ _ e => globs e
  | _ => []
def globsSs : List CS → List (Str × D)
  | [] => []
  | c :: cs => globsS c ++ globsSs cs
end
structure GoodS (X : Cx) (j : Nat) : Prop extends Good X j where
  own : PassesOwn (model X.prog X.w) X.A X.env X.xe
  fn : ∀ x, X.fn x = true
  kind : X.env.scope.kind = .function
/-! ### stores that are exchanged -/
theorem blk_kind {env : Env} (h : env.scope.kind = .function) : env.blockKind = .function := by unfold Env.blockKind; rw [h]; rfl
theorem sw_lc {env : Env} (h : env.scope.kind = .function) {elt : Expr} {gs : List Comprehension} {scope : Scope} {pos py : Pos} {y : Str} {l : Nat} :
    swapsWith (.ListComp elt gs scope pos) (some (.Name y py)) l env = pure (swV env.scope y py (.ListComp elt gs scope pos)) := by
  unfold swapsWith swV lclB
  simp only [blk_kind h, Expr.pos, Env.kindOf]
  simp
theorem sw_no {v : Expr} {t : Option Expr} {l : Nat} {env : Env} (h : compB v = false) (hl : ∀ a b c d, v ≠ .ListComp a b c d) : swapsWith v t l env = pure false := by
  cases v <;> first | rfl | exact absurd h Bool.noConfusion | exact absurd rfl (hl _ _ _ _)
theorem sw_sub {v : Expr} {o i : Expr} {p : Pos} {l : Nat} {env : Env} (h : compB v = false) : swapsWith v (some (.Subscript o i p)) l env = pure false := by
  cases v <;> first | rfl | exact absurd h Bool.noConfusion
theorem sw_subS {v : Expr} {o i : Expr} {p : Pos} {l : Nat} {env : Env} (h : compB v = false) : swapsWithSole [.Subscript o i p] v l env = pure false := by
  cases v <;> first | rfl | exact absurd h Bool.noConfusion
theorem sw_tup {v : Expr} {ts : List Expr} {k : Nat} {p : Pos} {l : Nat} {env : Env} (h : compB v = false) : swapsWithSole [.Tuple ts k p] v l env = pure false := by
  cases v <;> first | rfl | exact absurd h Bool.noConfusion
theorem fm_all {α β : Type} {f : α → Option β} : ∀ {l : List α}, (l.filterMap f).length = l.length → ∀ t ∈ l, (f t).isSome = true
  | [], _, t, ht => by cases ht
  | a :: l, h, t, ht => by
    have hle : (l.filterMap f).length ≤ l.length := List.length_filterMap_le f l
    cases e : f a with
    | none => rw [List.filterMap_cons, e] at h; simp only [List.length_cons] at h; omega
    | some b =>
      rw [List.filterMap_cons, e] at h
      simp only [List.length_cons, Nat.add_right_cancel_iff] at h
      rcases List.mem_cons.mp ht with rfl | ht
      · rw [e]; rfl
      · exact fm_all h t ht
theorem noSw {ts : List Expr} {v : Expr} {k : Nat} {p : Pos} {env : Env} (h : noSwB ts v = true) : swappedStores [.Tuple ts k p] v env = pure none := by
  cases v with
  | Tuple vs k' p' =>
    have h : (ts.any (fun t => !nameB t) || !(ts.length == 2 || ts.length == 3) || vs.all (foldedForSure 8)) = true := h
    unfold swappedStores
    simp only []
    split
    · rfl
    rename_i h1
    split
    · rfl
    split
    · rfl
    rename_i h3
    split
    · rfl
    rename_i h4
    exfalso
    simp only [Bool.or_eq_true] at h
    rcases h with (h | h) | h
    · obtain ⟨t, ht, hn⟩ := List.any_eq_true.mp h
      simp only [bne_iff_ne, ne_eq, Bool.or_eq_true, not_or, Decidable.not_not] at h3
      have := fm_all h3.1 t ht
      cases t <;> first | (exact absurd hn Bool.false_ne_true) | (exact absurd this Bool.false_ne_true)
    · rw [Bool.or_eq_true, Bool.or_eq_true] at h1
      exact h1 (.inl (.inl h))
    · exact h4 h
  | _ => rfl
theorem noSwC {ts : List Expr} {v : Expr} {k : Nat} {p : Pos} {env : Env} {x : Str} {q : Pos} (hm : Expr.Name x q ∈ ts) (h : lclB env.scope x = false) : swappedStores [.Tuple ts k p] v env = pure none := by
  cases v with
  | Tuple vs k' p' =>
    unfold swappedStores
    simp only []
    split
    · rfl
    split
    · rfl
    split
    · rfl
    rename_i h3
    exfalso
    simp only [bne_iff_ne, ne_eq, Bool.or_eq_true, not_or, Decidable.not_not] at h3
    have := fm_all h3.1 _ hm
    have hk : (env.kindOf x == some NameKind.local) = false := h
    simp [hk] at this
  | _ => rfl
theorem par2_sw {env : Env} (hk : env.scope.kind = .function) {x y : Str} {p q pt : Pos} {kt k2 : Nat} {pt2 : Pos} {a b : Expr} (hl : (p.line == q.line) = true) (h : parB env.scope [x, y] [a, b] = true) :
    swappedStores [.Tuple [.Name x p, .Name y q] kt pt] (.Tuple [a, b] k2 pt2) env = pure (some [x, y]) ∧ x ≠ y ∧ env.scope.names.lookup x = some .local ∧ env.scope.names.lookup y = some .local := by
  unfold parB at h
  simp only [Bool.and_eq_true, Bool.not_eq_true', List.all_cons, List.all_nil, Bool.and_true, beq_iff_eq] at h
  obtain ⟨⟨⟨⟨⟨hx, hy⟩, hd⟩, hf⟩, hc⟩, hs⟩ := h
  have hx : env.scope.names.lookup x = some .local := eq_of_beq hx
  have hy : env.scope.names.lookup y = some .local := eq_of_beq hy
  have hl : p.line = q.line := eq_of_beq hl
  refine ⟨?_, fun z => ?_, hx, hy⟩
  · unfold swappedStores
    simp only [blk_kind hk, Env.kindOf, hx, hy, List.filterMap_cons, List.filterMap_nil, List.head?_cons, Option.map_some, Option.getD_some, Expr.pos, hl, beq_self_eq_true, Bool.and_self, if_true, Bool.and_true]
    refine (if_neg (fun h => Bool.false_ne_true h)).trans ?_
    split
    · rename_i h2
      exfalso
      simp only [List.any_cons, List.any_nil, Bool.or_false, Bool.or_eq_false_iff] at hs
      simp only [List.any_cons, List.any_nil, Bool.or_false, Bool.or_eq_true] at h2
      rcases h2 with h2 | h2
      · cases a <;> first | (exact absurd h2 Bool.false_ne_true) | (exact absurd hs.1 Bool.noConfusion)
      · cases b <;> first | (exact absurd h2 Bool.false_ne_true) | (exact absurd hs.2 Bool.noConfusion)
    · rw [if_neg (by rw [hd]; simp), if_neg (by simp only [List.all_cons, List.all_nil, Bool.and_true]; rw [hf]; simp), if_neg (by simp only [List.all_cons, List.all_nil, Bool.and_true]; rw [hc]; simp)]
  · subst z
    revert hd
    simp [List.eraseDups_cons]
theorem par3_sw {env : Env} (hk : env.scope.kind = .function) {x y z : Str} {p q r pt : Pos} {kt k2 : Nat} {pt2 : Pos} {a b c : Expr} (hl : (p.line == q.line) = true) (hl2 : (p.line == r.line) = true) (h : parB env.scope [x, y, z] [a, b, c] = true) :
    swappedStores [.Tuple [.Name x p, .Name y q, .Name z r] kt pt] (.Tuple [a, b, c] k2 pt2) env = pure (some [x, y, z]) ∧ (x ≠ y ∧ x ≠ z ∧ y ≠ z) ∧ env.scope.names.lookup x = some .local ∧ env.scope.names.lookup y = some .local ∧ env.scope.names.lookup z = some .local := by
  unfold parB at h
  simp only [Bool.and_eq_true, Bool.not_eq_true', List.all_cons, List.all_nil, Bool.and_true, beq_iff_eq] at h
  obtain ⟨⟨⟨⟨⟨hx, hy, hz⟩, hd⟩, hf⟩, hc⟩, hs⟩ := h
  have hx : env.scope.names.lookup x = some .local := eq_of_beq hx
  have hy : env.scope.names.lookup y = some .local := eq_of_beq hy
  have hz : env.scope.names.lookup z = some .local := eq_of_beq hz
  have hl : p.line = q.line := eq_of_beq hl
  have hl2 : q.line = r.line := hl ▸ eq_of_beq hl2
  refine ⟨?_, ⟨fun e => ?_, fun e => ?_, fun e => ?_⟩, hx, hy, hz⟩
  · unfold swappedStores
    simp only [blk_kind hk, Env.kindOf, hx, hy, hz, List.filterMap_cons, List.filterMap_nil, List.head?_cons, Option.map_some, Option.getD_some, Expr.pos, hl, hl2, beq_self_eq_true, Bool.and_self, if_true, Bool.and_true]
    refine (if_neg (fun h => Bool.false_ne_true h)).trans ?_
    split
    · rename_i h2
      exfalso
      simp only [List.any_cons, List.any_nil, Bool.or_false, Bool.or_eq_false_iff] at hs
      simp only [List.any_cons, List.any_nil, Bool.or_false, Bool.or_eq_true] at h2
      rcases h2 with h2 | h2 | h2
      · cases a <;> first | (exact absurd h2 Bool.false_ne_true) | (exact absurd hs.1 Bool.noConfusion)
      · cases b <;> first | (exact absurd h2 Bool.false_ne_true) | (exact absurd hs.2.1 Bool.noConfusion)
      · cases c <;> first | (exact absurd h2 Bool.false_ne_true) | (exact absurd hs.2.2 Bool.noConfusion)
    · rw [if_neg (by rw [hd]; simp), if_neg (by simp only [List.all_cons, List.all_nil, Bool.and_true]; rw [hf]; simp), if_neg (by simp only [List.all_cons, List.all_nil, Bool.and_true]; rw [hc]; simp)]
  · subst e
    have : ([x, x, z].eraseDups).length ≤ [x, z].length := by
      rw [List.eraseDups_cons]
      simp only [List.filter_cons, beq_self_eq_true, Bool.not_true, if_false]
      by_cases e : z = x
      · subst e; simp [List.eraseDups_cons]
      · simp [List.eraseDups_cons, e]
    rw [hd] at this
    simp at this
  · subst e
    have : ([x, y, x].eraseDups).length ≤ [x, y].length := by
      rw [List.eraseDups_cons]
      by_cases e : y = x
      · subst e; simp [List.eraseDups_cons]
      · simp [List.eraseDups_cons, e]
    rw [hd] at this
    simp at this
  · subst e
    have : ([x, y, y].eraseDups).length ≤ [x, y].length := by
      rw [List.eraseDups_cons]
      by_cases e : y = x
      · subst e; simp [List.eraseDups_cons]
      · simp [List.eraseDups_cons, e]
    rw [hd] at this
    simp at this
end Pm
namespace Pm
open PySem PySem.Spec PyProof.Rows L2
local macro_rules | `(tactic| decreasing_tactic) => `(tactic| first
  | (apply Prod.Lex.left; simp; omega)
  | (simp; omega)
  | (simp_wf; omega))
theorem iff_of {a b : Bool} : (a && b) = true → a = true ∧ b = true := by simp
theorem nodup_ne {N : List Str} {i j : Nat} {x y : Str} (hi : N[i]? = some x) (hj : N[j]? = some y) (h : x ≠ y) : i ≠ j := fun z => by
  subst z; rw [hi] at hj; cases hj; exact h rfl
theorem parC_of {sc : Scope} {xs : List Str} (h : parC sc xs = true) : (∀ x ∈ xs, locB sc x = true) ∧ ∃ x ∈ xs, lclB sc x = false := by
  unfold parC at h
  rw [Bool.and_eq_true] at h
  obtain ⟨x, hx, h2⟩ := List.any_eq_true.mp h.2
  exact ⟨fun x hx => List.all_eq_true.mp h.1 x hx, x, hx, by simpa using h2⟩
section
variable {X : Cx} {g : G} {j : Nat}
theorem pv_of {i : Nat} {x : Str} {p : Pos} (h1 : (X.N[i]? == some x) = true) (h2 : visB X.env.scope x = true) (h3 : noDbg x = true) : PE X (.Name x p) (tVar i) := pe_var (eq_of_beq h1) (vis_of h2) (dbg_of h3).1 (dbg_of h3).2
theorem sub_a {o i : Expr} {pos : Pos} {c : Pm.CE} {sc : Scope} {N : List Str} (h : chkE sc N c i = true) (env : Env) : ∀ v, assign (.Subscript o i pos) env v = (do
      let ov ← holding [v] (eval o env)
      let iv ← holding [v, ov] (eval i env)
      standAt pos
      holding [v, ov, iv] (setItem ov iv v)
      release [v, ov, iv] []) := by
  intro v
  cases i with
  | Slice l u s p => cases c <;> exact absurd h Bool.false_ne_true
  | _ => rfl
theorem aug_a {i : Expr} {c : Pm.CE} {sc : Scope} {N : List Str} (h : chkE sc N c i = true) : ∀ ov iv new, augStore i ov iv new = (do holding [new, ov, iv] (setItem ov iv new); release [new, ov, iv] []; pure .next) := by
  intro ov iv new
  cases i with
  | Slice l u s p => cases c <;> exact absurd h Bool.false_ne_true
  | _ => rfl
variable (G : GoodS X j)
include G
theorem set_ok {i : Nat} {e : Pm.CE} {x : Str} {py pos : Pos} {v : Expr} (C : CallsOk X j (calls e)) (B : GlobsOk X (globs e)) (h1 : (X.N[i]? == some x) = true) (h2 : locB X.env.scope x = true) (h3 : vl e = true) (h4 : chkE X.env.scope X.N e v = true) (h5 : compB v = false) :
    PS X (.Assign [.Name x py] v pos) (LS X.K g (ex (.set i e))) := by
  refine PS.ofSl fun sl => ?_
  by_cases hlc : ∃ elt gs scope p, v = .ListComp elt gs scope p
  · obtain ⟨elt0, gs, scope0, p0, rfl⟩ := hlc
    by_cases hsw : swV X.env.scope x py (.ListComp elt0 gs scope0 p0) = true
    · have he : ∃ a b c d, e = .lc a b c d := by
        cases e <;> first | exact ⟨_, _, _, _, rfl⟩ | exact absurd h4 Bool.false_ne_true
      obtain ⟨elt, tg, it, cond, rfl⟩ := he
      obtain ⟨y, t, it', ifs, scope, p, ev0, q1, q2, q3, q4, q5, q6, q7, q8, q9⟩ := lc_inv h4
      cases ev0
      have ok : BlkOk X.N X.env.scope scope0 (tg.names X.N) := blk_ok q1
      have eb : ∀ (s' : List SV) (s : Shared) (H : Hp) (C' : Addr) (cl : List (Str × Addr)) (fp : List Addr), PE (X.blk s H scope0 (compEnvC scope0 cl C' X.env) fp) elt0 (LE X.K g (ev elt s') s') := fun s' s H C' cl fp =>
        ev_ok g elt _ elt0 s' (G.toGood.blk _ _ _ _ _) C.app.1.app.1 B.app.1.app.1 q6 q7
      have cb : ∀ (s' : List SV) (s : Shared) (H : Hp) (C' : Addr) (cl : List (Str × Addr)) (fp : List Addr), PTs (X.blk s H scope0 (compEnvC scope0 cl C' X.env) fp) ifs (LT X.K g (fun ss => toC (evs cond s' ss)) s') := fun s' s H C' cl fp =>
        evC_ok g cond _ ifs s' (G.toGood.blk _ _ _ _ _) C.app.2 B.app.2 q8 q9
      have hI : PI X t it' (LI X.K g false (fun ss => toI (ev it sl ss)) sl) := evI_ok g false it X t it' sl G.toGood C.app.1.app.2 B.app.1.app.2 (fun z => by cases z) q3 q4
      have hy : X.env.scope.names.lookup x = some .local := by
        unfold swV at hsw
        rw [Bool.and_eq_true, Bool.and_eq_true] at hsw
        exact eq_of_beq hsw.1.1
      have key := ps_setLc (i := i) (py := py) (spos := pos) (g := LG X.K g tg) (pos := p0) (own := tg.names X.N) G.calm G.nd (eq_of_beq h1) hy (by rw [sw_lc G.kind, hsw]) hI ok (fun s H C' cl fp => tg_ok (g := g) (G.toGood.blk s H scope0 (compEnvC scope0 cl C' X.env) fp) (fun x => locB scope0 x) (st_of ok.uniq rfl) tg t q2)
        (fun s H C' cl fp => PTs.ex fun s' => cb s' s H C' cl fp) (fun s H C' cl fp => PE.ex fun s' => eb s' s H C' cl fp) (noset_fold q5)
      rw [names_snd] at key
      refine PS.imp key fun D σ H q => ?_
      have q' := LSs.set (m := fun ss => ev (.lc elt tg it cond) sl ss) q
      exact LE.lc (cn := fun s' ss => toC (evs cond s' ss)) (elt := fun s' ss => ev elt s' ss) (el := fun s' ss => toE (ev elt s' ss)) q' (fun _ => rfl) (fun _ _ => rfl) (fun _ _ _ z => z) (fun s' _ _ _ z => ⟨s', z⟩) (fun s' _ _ _ z => ⟨s', z⟩)
    · refine PS.imp (ps_set G.nd (eq_of_beq h1) (loc_of h2) (ev_ok g e X _ sl G.toGood C B h3 h4) (by rw [sw_lc G.kind]; rw [Bool.not_eq_true] at hsw; rw [hsw]) (.inl (G.fn x))) fun D σ H q => LSs.set q
  · refine PS.imp (ps_set G.nd (eq_of_beq h1) (loc_of h2) (ev_ok g e X v sl G.toGood C B h3 h4) (sw_no h5 fun a b c d z => hlc ⟨a, b, c, d, z⟩) (.inl (G.fn x))) fun D σ H q => LSs.set q
theorem st_loc : ∀ x, locB X.env.scope x = true → Loc X.env.scope x ∧ (X.fn x = true ∨ X.env.scope.names.lookup x = some .local) := fun x h => ⟨loc_of h, .inl (G.fn x)⟩
theorem unp_ok {t : TGt} {e : Pm.CE} {ts : List Expr} {k : Nat} {p pos : Pos} {v : Expr} (C : CallsOk X j (calls e)) (B : GlobsOk X (globs e)) (h0 : tupT t = true) (h1 : chkT (locB X.env.scope) X.N t (.Tuple ts k p) = true) (h3 : vl e = true) (h4 : chkE X.env.scope X.N e v = true) (h5 : noSwB ts v = true) (h6 : compB v = false) :
    PS X (.Assign [.Tuple ts k p] v pos) (LS X.K g (ex (.unp t e))) := by
  refine PS.ofSl fun sl => ?_
  cases t with
  | one i => exact absurd h0 Bool.false_ne_true
  | tup us => exact PS.imp (ps_asg (ev_ok g e X v sl G.toGood C B h3 h4) (tg_ok (g := g) G.toGood (locB X.env.scope) (st_loc G) (.tup us) _ h1) (sw_tup h6) (noSw h5) rfl) fun D σ H q => LSs.unp q
theorem sto_ok {i : Nat} {e k : Pm.CE} {x : Str} {p1 p2 pos : Pos} {v ke : Expr} (C : CallsOk X j (calls k ++ calls e)) (B : GlobsOk X (globs k ++ globs e)) (h1 : (X.N[i]? == some x) = true) (h2 : visB X.env.scope x = true) (h3 : noDbg x = true) (h4 : vl k = true) (h5 : chkE X.env.scope X.N k ke = true) (h6 : vl e = true) (h7 : chkE X.env.scope X.N e v = true) (h8 : compB v = false) :
    PS X (.Assign [.Subscript (.Name x p1) ke p2] v pos) (LS X.K g (ex (.sto i k e))) := by
  refine PS.ofSl fun sl => ?_
  exact PS.imp (ps_asg (ev_ok g e X v sl G.toGood C.app.2 B.app.2 h6 h7) (pg_sub (pv_of h1 h2 h3) (ev_ok g k X ke sl G.toGood C.app.1 B.app.1 h4 h5) set_list (sub_a h5 _)) (sw_subS h8) rfl rfl) fun D σ H q => LSs.sto q
theorem PG.ex {e : Expr} {t : List SV → TG} (h : ∀ s, PG X e (t s)) : PG X e (fun v σ H Q => ∃ s, t s v σ H Q) := ⟨fun pins s σ H v u Q I r ⟨z, q⟩ => (h z).run pins s σ H v u Q I r q⟩
theorem sto2_ok {i l : Nat} {e f k m : Pm.CE} {x y : Str} {p1 p2 p3 p4 p5 p6 pos : Pos} {n1 n2 : Nat} {v w ke me : Expr} (C : CallsOk X j (calls k ++ calls m ++ calls e ++ calls f)) (B : GlobsOk X (globs k ++ globs m ++ globs e ++ globs f))
    (h1 : (X.N[i]? == some x) = true) (h2 : visB X.env.scope x = true) (h3 : noDbg x = true) (h4 : vl k = true) (h5 : chkE X.env.scope X.N k ke = true)
    (g1 : (X.N[l]? == some y) = true) (g2 : visB X.env.scope y = true) (g3 : noDbg y = true) (g4 : vl m = true) (g5 : chkE X.env.scope X.N m me = true)
    (h6 : vl e = true) (h7 : chkE X.env.scope X.N e v = true) (g6 : vl f = true) (g7 : chkE X.env.scope X.N f w = true) :
    PS X (.Assign [.Tuple [.Subscript (.Name x p1) ke p2, .Subscript (.Name y p3) me p4] n1 p5] (.Tuple [v, w] n2 p6) pos) (LS X.K g (ex (.sto2 i k l m e f))) := by
  refine PS.ofSl fun sl => ?_
  refine PS.imp (ps_asg (pe_tup (pa_cons (ev_ok g e X v sl G.toGood C.app.1.app.2 B.app.1.app.2 h6 h7) (pa_cons (ev_ok g f X w sl G.toGood C.app.2 B.app.2 g6 g7) pa_nil (star_cons (chk_star g7))) (star_cons (chk_star h7))))
    (pg_tup (n := 2) G.calm (pgs_cons (pg_sub (pv_of h1 h2 h3) (ev_ok g k X ke sl G.toGood C.app.1.app.1.app.1 B.app.1.app.1.app.1 h4 h5) set_list (sub_a h5 _)) (pgs_cons (PG.ex G fun s => pg_sub (pv_of g1 g2 g3) (ev_ok g m X me s G.toGood C.app.1.app.1.app.2 B.app.1.app.1.app.2 g4 g5) set_list (sub_a g5 _)) pgs_nil rfl) rfl) rfl rfl) rfl (noSw (by rfl)) rfl) fun D σ H q => LSs.sto2 (mk := fun s ss => ev k s ss) (ml := fun s ss => ev m s ss) q
theorem par_ok {js : List Nat} {es : List Pm.CE} {ts vs : List Expr} {n1 n2 : Nat} {p5 p6 pos : Pos} (C : CallsOk X j (callss es)) (B : GlobsOk X (globss es)) (h : chkA X.env.scope X.N es vs = true) (h2 : (match js, ts with
    | [i, j], [.Name x p, .Name y q] => X.N[i]? == some x && X.N[j]? == some y && ((p.line == q.line && parB X.env.scope [x, y] vs) || parC X.env.scope [x, y])
    | [i, j, l], [.Name x p, .Name y q, .Name z r] => X.N[i]? == some x && X.N[j]? == some y && X.N[l]? == some z && ((p.line == q.line && p.line == r.line && parB X.env.scope [x, y, z] vs) || parC X.env.scope [x, y, z])
    | _, _ => false) = true) (hlen : js.length = vs.length) :
    PS X (.Assign [.Tuple ts n1 p5] (.Tuple vs n2 p6) pos) (LS X.K g (ex (.par js es))) := by
  refine PS.ofSl fun sl => ?_
  have one : ∀ {c : Pm.CE} {cs : List Pm.CE} {e : Expr} {rest : List Expr} {t : TA}, chkA X.env.scope X.N (c :: cs) (e :: rest) = true → CallsOk X j (calls c) → GlobsOk X (globs c) → PA X rest t → PA X (e :: rest) (tCons (LE X.K g (ev c sl) sl) t) := by
    intro c cs e rest t h C B r
    have h : (vl c && chkE X.env.scope X.N c e && chkA X.env.scope X.N cs rest) = true := h
    simp only [Bool.and_eq_true] at h
    exact pa_cons (ev_ok g c X e sl G.toGood C B h.1.1 h.1.2) r (star_cons (chk_star h.1.2))
  have rest : ∀ {c : Pm.CE} {cs : List Pm.CE} {e : Expr} {rest : List Expr}, chkA X.env.scope X.N (c :: cs) (e :: rest) = true → chkA X.env.scope X.N cs rest = true := by
    intro c cs e rest h
    have h : (vl c && chkE X.env.scope X.N c e && chkA X.env.scope X.N cs rest) = true := h
    simp only [Bool.and_eq_true] at h
    exact h.2
  split at h2
  · rename_i i l x p y q
    simp only [Bool.and_eq_true, Bool.or_eq_true] at h2
    obtain ⟨⟨a1, a2⟩, a34⟩ := h2
    have hlen : vs.length = 2 := hlen.symm
    match vs, hlen, h, a34 with
    | [v, w], _, h, a34 =>
      match es, h, C, B with
      | [c1, c2], h, C, B =>
        rcases a34 with ⟨a3, a4⟩ | hc
        case inr =>
          obtain ⟨hl1, x0, hx0, hx1⟩ := parC_of hc
          have lx := hl1 x (by simp)
          have ly := hl1 y (by simp)
          refine PS.imp (ps_asg (pe_tup (one h C.app.1 B.app.1 (one (rest h) C.app.2.app.1 B.app.2.app.1 pa_nil))) (pg_tup (n := 2) G.calm (pgs_cons (pg_name G.nd (eq_of_beq a1) (loc_of lx) (.inl (G.fn _))) (pgs_cons (pg_name G.nd (eq_of_beq a2) (loc_of ly) (.inl (G.fn _))) pgs_nil rfl) rfl) rfl rfl) rfl ?_ rfl) fun D σ H q => LSs.par2c q
          simp only [List.mem_cons, List.not_mem_nil, or_false] at hx0
          rcases hx0 with rfl | rfl
          · exact noSwC (q := p) (by simp) hx1
          · exact noSwC (q := q) (by simp) hx1
        obtain ⟨s1, s2, s3, s4⟩ := par2_sw (pt := p5) (kt := n1) (k2 := n2) (pt2 := p6) G.kind a3 a4
        exact PS.imp (ps_par G.calm G.nd (eq_of_beq a1) (eq_of_beq a2) (nodup_ne (eq_of_beq a1) (eq_of_beq a2) s2) s3 s4 (one h C.app.1 B.app.1 (one (rest h) C.app.2.app.1 B.app.2.app.1 pa_nil)) s1 rfl) fun D σ H q => LSs.par2 q
      | [], h, _, _ => exact absurd h Bool.false_ne_true
      | [c1], h, _, _ => exact absurd (rest h) Bool.false_ne_true
      | _ :: _ :: _ :: _, h, _, _ => exact absurd (rest (rest h)) Bool.false_ne_true
  · rename_i i l m x p y q z r
    simp only [Bool.and_eq_true, Bool.or_eq_true] at h2
    obtain ⟨⟨⟨a1, a2⟩, a3⟩, a34⟩ := h2
    have hlen : vs.length = 3 := hlen.symm
    match vs, hlen, h, a34 with
    | [v, w, u], _, h, a34 =>
      match es, h, C, B with
      | [c1, c2, c3], h, C, B =>
        rcases a34 with ⟨⟨a5, a6⟩, a4⟩ | hc
        case inr =>
          obtain ⟨hl1, x0, hx0, hx1⟩ := parC_of hc
          have lx := hl1 x (by simp)
          have ly := hl1 y (by simp)
          have lz := hl1 z (by simp)
          refine PS.imp (ps_asg (pe_tup (one h C.app.1 B.app.1 (one (rest h) C.app.2.app.1 B.app.2.app.1 (one (rest (rest h)) C.app.2.app.2.app.1 B.app.2.app.2.app.1 pa_nil)))) (pg_tup (n := 3) G.calm (pgs_cons (pg_name G.nd (eq_of_beq a1) (loc_of lx) (.inl (G.fn _))) (pgs_cons (pg_name G.nd (eq_of_beq a2) (loc_of ly) (.inl (G.fn _))) (pgs_cons (pg_name G.nd (eq_of_beq a3) (loc_of lz) (.inl (G.fn _))) pgs_nil rfl) rfl) rfl) rfl rfl) rfl ?_ rfl) fun D σ H q => LSs.par3c q
          simp only [List.mem_cons, List.not_mem_nil, or_false] at hx0
          rcases hx0 with rfl | rfl | rfl
          · exact noSwC (q := p) (by simp) hx1
          · exact noSwC (q := q) (by simp) hx1
          · exact noSwC (q := r) (by simp) hx1
        obtain ⟨s1, ⟨s2, s2', s2''⟩, s3, s4, s5⟩ := par3_sw (pt := p5) (kt := n1) (k2 := n2) (pt2 := p6) G.kind a5 a6 a4
        exact PS.imp (ps_par3 G.calm G.nd (eq_of_beq a1) (eq_of_beq a2) (eq_of_beq a3) (nodup_ne (eq_of_beq a1) (eq_of_beq a2) s2) (nodup_ne (eq_of_beq a1) (eq_of_beq a3) s2') (nodup_ne (eq_of_beq a2) (eq_of_beq a3) s2'') s3 s4 s5
          (one h C.app.1 B.app.1 (one (rest h) C.app.2.app.1 B.app.2.app.1 (one (rest (rest h)) C.app.2.app.2.app.1 B.app.2.app.2.app.1 pa_nil))) s1 rfl) fun D σ H q => LSs.par3 q
      | [], h, _, _ => exact absurd h Bool.false_ne_true
      | [c1], h, _, _ => exact absurd (rest h) Bool.false_ne_true
      | [c1, c2], h, _, _ => exact absurd (rest (rest h)) Bool.false_ne_true
      | _ :: _ :: _ :: _ :: _, h, _, _ => exact absurd (rest (rest (rest h))) Bool.false_ne_true
  · cases h2
end
end Pm
namespace Pm
open PySem PySem.Spec PyProof.Rows L2
section
variable {X : Cx} {g : G} {j : Nat} (G : GoodS X j)
include G
theorem aug_ok' {i : Nat} {o : BOp} {p : Operator} {e : Pm.CE} {x : Str} {p1 pos : Pos} {v : Expr} (C : CallsOk X j (calls e)) (B : GlobsOk X (globs e)) (h1 : (X.N[i]? == some x) = true) (h2 : locB X.env.scope x = true) (h3 : (augOp o == p) = true) (h6 : vl e = true) (h7 : chkE X.env.scope X.N e v = true) :
    PS X (.AugAssign (.Name x p1) p v pos) (LS X.K g (ex (.aug i o e))) := by
  obtain rfl : augOp o = p := eq_of_beq h3
  exact PS.ofSl fun sl => PS.imp (ps_aug G.nd (eq_of_beq h1) (loc_of h2) (ev_ok g e X v sl G.toGood C B h6 h7) aug_ok (.inl (G.fn x))) fun D σ H q => LSs.aug q
theorem augs_ok {i : Nat} {o : BOp} {p : Operator} {e k : Pm.CE} {x : Str} {p1 p2 pos : Pos} {v ke : Expr} (C : CallsOk X j (calls k ++ calls e)) (B : GlobsOk X (globs k ++ globs e)) (h1 : (X.N[i]? == some x) = true) (h2 : visB X.env.scope x = true) (h0 : noDbg x = true) (h4 : vl k = true) (h5 : chkE X.env.scope X.N k ke = true) (h3 : (augOp o == p) = true) (h6 : vl e = true) (h7 : chkE X.env.scope X.N e v = true) :
    PS X (.AugAssign (.Subscript (.Name x p1) ke p2) p v pos) (LS X.K g (ex (.augs i k o e))) := by
  obtain rfl : augOp o = p := eq_of_beq h3
  exact PS.ofSl fun sl => PS.imp (ps_augS (pv_of h1 h2 h0) (ev_ok g k X ke sl G.toGood C.app.1 B.app.1 h4 h5) get_list (ev_ok g e X v sl G.toGood C.app.2 B.app.2 h6 h7) aug_ok set_list (aug_a h5)) fun D σ H q => LSs.augs q
theorem app_ok {i : Nat} {e : Pm.CE} {x m : Str} {p1 ap cp pos : Pos} {a : Expr} (C : CallsOk X j (calls e)) (B : GlobsOk X (globs e)) (h1 : (X.N[i]? == some x) = true) (h2 : visB X.env.scope x = true) (h0 : noDbg x = true) (hm : (m == "append") = true) (hl : (ap.endLine == cp.line) = true) (h6 : vl e = true) (h7 : chkE X.env.scope X.N e a = true) :
    PS X (.Expr (.Call (.Attribute (.Name x p1) m ap) [a] [] cp) pos) (LS X.K g (ex (.app i e))) := by
  obtain rfl : m = "append" := eq_of_beq hm
  refine PS.ofSl fun sl => PS.imp (ps_expr (pe_bm PySem.F.plainAttrs_list PySem.F.slot_list_append PySem.F.type_list_append mt_append (pv_of h1 h2 h0) (pa_cons (ev_ok g e X a sl G.toGood C B h6 h7) pa_nil (star_cons (chk_star h7))) rfl (by rw [star_cons (chk_star h7)]; rfl) hl (star_cons (chk_star h7)) rfl) rfl) fun D σ H q => LSs.app q
theorem ext_ok {i : Nat} {e : Pm.CE} {x m : Str} {p1 ap cp pos : Pos} {a : Expr} (C : CallsOk X j (calls e)) (B : GlobsOk X (globs e)) (h1 : (X.N[i]? == some x) = true) (h2 : visB X.env.scope x = true) (h0 : noDbg x = true) (hm : (m == "extend") = true) (hl : (ap.endLine == cp.line) = true) (h6 : vl e = true) (h7 : chkE X.env.scope X.N e a = true) :
    PS X (.Expr (.Call (.Attribute (.Name x p1) m ap) [a] [] cp) pos) (LS X.K g (ex (.ext i e))) := by
  obtain rfl : m = "extend" := eq_of_beq hm
  refine PS.ofSl fun sl => PS.imp (ps_expr (pe_bm PySem.F.plainAttrs_list PySem.F.slot_list_extend PySem.F.type_list_extend mt_extend (pv_of h1 h2 h0) (pa_cons (ev_ok g e X a sl G.toGood C B h6 h7) pa_nil (star_cons (chk_star h7))) rfl (by rw [star_cons (chk_star h7)]; rfl) hl (star_cons (chk_star h7)) rfl) rfl) fun D σ H q => LSs.ext q
theorem pop0_ok {i l : Nat} {k : Pm.CE} {x y m : Str} {p0 p1 ap cp pos : Pos} (h1 : (X.N[l]? == some y) = true) (h2 : locB X.env.scope y = true) (g1 : (X.N[i]? == some x) = true) (g2 : visB X.env.scope x = true) (h0 : noDbg x = true) (hm : (m == "pop") = true) (hl : (ap.endLine == cp.line) = true) (hk : isNop k = true) :
    PS X (.Assign [.Name y p0] (.Call (.Attribute (.Name x p1) m ap) [] [] cp) pos) (LS X.K g (ex (.popS l i k))) := by
  obtain rfl : m = "pop" := eq_of_beq hm
  exact PS.ofSl fun sl => PS.imp (ps_set G.nd (eq_of_beq h1) (loc_of h2) (pe_bm0 PySem.F.plainAttrs_list PySem.F.slot_list_pop PySem.F.type_list_pop mt_pop (pv_of g1 g2 h0) rfl hl) rfl (.inl (G.fn y))) fun D σ H q => LSs.pop0 hk q
theorem popAt_ok {i l : Nat} {k : Pm.CE} {x y m : Str} {p0 p1 ap cp pos : Pos} {a : Expr} (C : CallsOk X j (calls k)) (B : GlobsOk X (globs k)) (h1 : (X.N[l]? == some y) = true) (h2 : locB X.env.scope y = true) (g1 : (X.N[i]? == some x) = true) (g2 : visB X.env.scope x = true) (h0 : noDbg x = true) (hm : (m == "pop") = true) (hl : (ap.endLine == cp.line) = true) (h6 : vl k = true) (h7 : chkE X.env.scope X.N k a = true)
    (hn : isNop k = false) : PS X (.Assign [.Name y p0] (.Call (.Attribute (.Name x p1) m ap) [a] [] cp) pos) (LS X.K g (ex (.popS l i k))) := by
  obtain rfl : m = "pop" := eq_of_beq hm
  exact PS.ofSl fun sl => PS.imp (ps_set G.nd (eq_of_beq h1) (loc_of h2) (pe_bm PySem.F.plainAttrs_list PySem.F.slot_list_pop PySem.F.type_list_pop mt_popAt (pv_of g1 g2 h0) (pa_cons (ev_ok g k X a sl G.toGood C B h6 h7) pa_nil (star_cons (chk_star h7))) rfl (by rw [star_cons (chk_star h7)]; rfl) hl (star_cons (chk_star h7)) rfl) rfl (.inl (G.fn y))) fun D σ H q => LSs.popAt (m := fun ss => ev k sl ss) (by rw [← hn]; exact q)
omit G in
theorem forNx {f : Pm.D → List SV → SS → Option Out} {ds : List Pm.D} {sl : List SV} {ss : SS} : (match forD f ds sl ss with
      | some (Out.nx sl' ss') => some (.nx sl' ss')
      | r => r) = forD f ds sl ss := by
  split
  · rename_i e; rw [e]
  · rfl
omit G in
theorem ex_free {t : TGt} {it : Pm.CE} {body : List CS} {sl : List SV} (h : lockOf it = some []) (ss : SS) :
    ex (.forr t it body) sl ss = (toI (ev it sl ss)).bind fun p => forD (fun d sl' ss => (bindT t d sl').bind fun sl' => keptLocks [] (exs body sl' ss)) p.1 sl p.2 := by
  unfold ex
  rw [h]
  show (toI (ev it sl ss)).bind _ = _
  congr 1
  funext p
  exact forNx
omit G in
theorem ex_un {t : TGt} {it : Pm.CE} {body : List CS} {sl : List SV} {i : Nat} (h : lockOf it = some [i]) (h1 : isOwn sl i = false) (h2 : isLock sl i = false) (ss : SS) :
    ex (.forr t it body) sl ss = (toI (ev it sl ss)).bind fun p => forD (fun d sl' ss => (bindT t d sl').bind fun sl' => keptLocks [] (exs body sl' ss)) p.1 sl p.2 := by
  have es : lockS sl i = sl := by
    unfold lockS
    split
    · rename_i e; unfold isOwn at h1; rw [e] at h1; cases h1
    · rfl
  have ef : [i].filter (isLock sl) = [] := by simp [h2]
  unfold ex
  rw [h]
  show (toI (ev it sl ss)).bind _ = _
  congr 1
  funext p
  show (match forD (fun d sl' ss => (bindT t d sl').bind fun sl' => keptLocks ([i].filter (isLock (lockS sl i))) (exs body sl' ss)) p.1 (lockS sl i) p.2 with
      | some (Out.nx sl' ss') => some (Out.nx (unlockS (isOwn sl i) sl' i) ss')
      | r => r) = _
  rw [es, h1, ef]
  exact forNx
omit G in
theorem ex_lock {t : TGt} {it : Pm.CE} {body : List CS} {sl : List SV} {i : Nat} {ds : List Pm.D} (h : lockOf it = some [i]) (h1 : isLock (lockS sl i) i = true) (ss : SS) (he : toI (ev it sl ss) = some (ds, ss)) :
    ex (.forr t it body) sl ss = (match forD (fun d sl' ss => (bindT t d sl').bind fun sl' => keptLocks [i] (exs body sl' ss)) ds (lockS sl i) ss with
      | some (Out.nx sl' ss') => some (Out.nx (unlockS (isOwn sl i) sl' i) ss')
      | r => r) := by
  have ef : [i].filter (isLock (lockS sl i)) = [i] := by simp [h1]
  unfold ex
  rw [h]
  show (toI (ev it sl ss)).bind _ = _
  rw [he]
  show (match forD (fun d sl' ss => (bindT t d sl').bind fun sl' => keptLocks ([i].filter (isLock (lockS sl i))) (exs body sl' ss)) ds (lockS sl i) ss with
      | some (Out.nx sl' ss') => some (Out.nx (unlockS (isOwn sl i) sl' i) ss')
      | r => r) = _
  rw [ef]
omit G in
theorem lock_cases {it : Pm.CE} {is : List Nat} (h : lockOf it = some is) : (is = [] ∧ noBo it = true) ∨ ∃ i, is = [i] ∧ (it = .loc i ∨ it = .enm (.loc i)) := by
  unfold lockOf at h
  split at h
  · cases h; exact .inr ⟨_, rfl, .inl rfl⟩
  · cases h; exact .inr ⟨_, rfl, .inr rfl⟩
  · split at h
    · cases h; exact .inl ⟨rfl, by assumption⟩
    · cases h
theorem for_ok {t : TGt} {it : Pm.CE} {body : List CS} {tg iter : Expr} {xs : List Stmt} {pos : Pos} (C : CallsOk X j (calls it)) (B : GlobsOk X (globs it)) (h1 : chkT (locB X.env.scope) X.N t tg = true) (h2 : (!enB it || tupB tg) = true) (h3 : chkE X.env.scope X.N it iter = true) (h4 : setB iter = false)
    (hb : PSs X xs (LS X.K g (exs body))) : PS X (.For tg iter xs [] pos) (LS X.K g (ex (.forr t it body))) := by
  refine PS.ofSl fun sl => ?_
  have hg := tg_ok (g := g) G.toGood (locB X.env.scope) (st_loc G) t tg h1
  -- walked without a lock
  have free : (hI : PI X tg iter (LI X.K g true (fun ss => toI (ev it sl ss)) sl)) → (∀ ss, ex (.forr t it body) sl ss = (toI (ev it sl ss)).bind fun p => forD (fun d sl' ss => (bindT t d sl').bind fun sl' => keptLocks [] (exs body sl' ss)) p.1 sl p.2) →
      PS X (.For tg iter xs [] pos) (LSs X g (ex (.forr t it body) sl) sl) := by
    intro hI hev
    refine PS.imp (ps_for G.own G.calm hI hg hb (noset_fold h4)) fun D σ H q => ?_
    refine LSs.for0 (mi := ev it sl) (fun _ _ _ z => z) ?_
    obtain ⟨F, ss, out, e, rp, k⟩ := q
    rw [hev] at e
    exact ⟨F, ss, out, e, rp, k⟩
  cases hl : lockOf it with
  | none =>
    refine PS.imp ps_never fun D σ H q => ?_
    obtain ⟨F, ss, out, e, _⟩ := q
    unfold ex at e
    rw [hl] at e
    cases e
  | some is =>
    rcases lock_cases hl with ⟨rfl, hn⟩ | ⟨i, rfl, hi⟩
    · exact free (evI_ok g true it X tg iter sl G.toGood C B (fun _ => hn) h2 h3) (ex_free hl)
    · by_cases hs : ∃ zs, sl[i]? = some (.own zs) ∨ sl[i]? = some (.lock zs)
      · obtain ⟨zs, hs⟩ := hs
        have hk : isLock (lockS sl i) i = true := by
          have hlen : i < sl.length := hs.elim (fun h => (List.getElem?_eq_some_iff.mp h).1) fun h => (List.getElem?_eq_some_iff.mp h).1
          rcases hs with hs | hs
          · unfold lockS; rw [hs]; unfold isLock; rw [List.getElem?_set_self hlen]
          · unfold lockS; rw [hs]; unfold isLock; rw [hs]
        have hr : ∀ ss, ev (.loc i) sl ss = some (.bo zs, ss) := fun ss => by
          show (getR sl i).map _ = _
          unfold getR
          rcases hs with hs | hs <;> rw [hs] <;> rfl
        rcases hi with rfl | rfl
        · cases iter with
          | Name x p =>
            have h3 : (X.N[i]? == some x && visB X.env.scope x && noDbg x) = true := h3
            simp only [Bool.and_eq_true] at h3
            refine PS.imp (ps_for G.own G.calm (pi_list (pv_of h3.1.1 h3.1.2 h3.2)) hg hb (noset_fold h4)) fun D σ H q => ?_
            refine LSs.for1 (en := false) hs ?_
            obtain ⟨F, ss, out, e, rp, k⟩ := q
            rw [ex_lock (ds := zs) hl hk ss (by show (ev (.loc i) sl ss).f itR = _; rw [hr]; rfl)] at e
            exact ⟨F, ss, out, e, rp, k⟩
          | _ => exact absurd h3 Bool.false_ne_true
        · rcases it_inv (by simp [vl]) h3 with ⟨a, y, q, e', z, _⟩ | ⟨a, b, y, q, e', f', z, _⟩ | ⟨a, q, e', z, rfl, h4', h5, h6⟩
          · cases z
          · cases z
          · cases z
            cases tg <;> first | exact absurd h2 Bool.false_ne_true | skip
            rename_i elts kk tpos
            cases e' with
            | Name x p =>
              have h6 : (X.N[i]? == some x && visB X.env.scope x && noDbg x) = true := h6
              simp only [Bool.and_eq_true] at h6
              have hI := pi_enum (elts := elts) (kk := kk) (tpos := tpos) (p := q.1) (pos := q.2) (gl_of h4') (G.blt "enumerate" (by decide +kernel)) (pa_cons (pv_of (p := p) h6.1.1 h6.1.2 h6.2) pa_nil rfl) rfl
              refine PS.imp (ps_for G.own G.calm hI hg hb (noset_fold h4)) fun D σ H q => ?_
              have key := LSs.for1 (X := X) (g := g) (en := true) (t := t) (mb := exs body) (D := D) (σ := σ) (H := H) hs (by
                obtain ⟨F, ss, out, e, rp, k⟩ := q
                rw [ex_lock (ds := enumD zs) hl hk ss (by show (O.f itR (O.f enD (toD (ev (.loc i) sl ss)))) = _; rw [hr]; rfl)] at e
                exact ⟨F, ss, out, e, rp, k⟩)
              obtain ⟨v, e1, a, e2, ⟨ys, e3⟩, e4⟩ := key
              exact ⟨v, e1, a, ys, by rw [e2], e3, e4⟩
            | _ => exact absurd h6 Bool.false_ne_true
      · have h1' : isOwn sl i = false := by
          unfold isOwn
          split
          · exact absurd ⟨_, .inl ‹_›⟩ hs
          · rfl
        have h2' : isLock sl i = false := by
          unfold isLock
          split
          · exact absurd ⟨_, .inr ‹_›⟩ hs
          · rfl
        have hn : ∀ ss r s, ev (.loc i) sl ss = some (r, s) → isBo r = false := by
          intro ss r s e
          obtain ⟨r', e1, e2⟩ := map_of (show (getR sl i).map (fun r => (r, ss)) = some (r, s) from e)
          cases e2
          obtain ⟨sv, e3, e4⟩ := bind_of e1
          cases sv <;> cases e4 <;> first | rfl | exact (hs ⟨_, .inl e3⟩).elim | exact (hs ⟨_, .inr e3⟩).elim
        refine free ?_ (ex_un hl h1' h2')
        rcases hi with rfl | rfl
        · exact pi_seq (ev_ok g (.loc i) X iter sl G.toGood C B rfl h3) true fun _ => hn
        · rcases it_inv (by simp [vl]) h3 with ⟨a, y, q, e', z, _⟩ | ⟨a, b, y, q, e', f', z, _⟩ | ⟨a, q, e', z, rfl, h4', h5, h6⟩
          · cases z
          · cases z
          · cases z
            cases tg <;> first | exact absurd h2 Bool.false_ne_true | skip
            exact pi_en true (gl_of h4') (G.blt "enumerate" (by decide +kernel)) (ev_ok g (.loc i) X e' sl G.toGood C B rfl h6) (chk_star h6) fun _ => hn
end
end Pm
namespace Pm
open PySem PySem.Spec PyProof.Rows L2
section
variable {K : PySem.W.Frag} {g : G} {F F' : Addr → Prop} {H H' H0 : Hp} {ss ss' : SS} {sl sl' : List SV} {σ σ' : L2.St}
def srcO (C : Addr) (ss : SS) : HO := .dK [(.inr "cells", .ref C), (.inr "left", .int ss.left), (.inr "mixed", .int ss.mixed), (.inr "turn", .int ss.turn)]
theorem SrcOk.dput {A C : Addr} (s : SrcOk A C ss H) {k : SK} {i : Int} (e : ss.put k i = some ss') : DPut H A (.str k.name) (.int i) (L2.upd H A (srcO C ss')) ∧ SrcOk A C ss' (L2.upd H A (srcO C ss')) := by
  have nAC : C ≠ A := fun q => by
    have h1 := s.1
    rw [← q, s.2.1] at h1; cases h1
  have hl : ∀ kvs : List (Key × V), kvs.length = 4 → kvs.length < sizeLine := fun kvs h => by rw [h, SL_eq]; decide
  have fin : (0 ≤ ss'.left ∧ 0 ≤ ss'.turn ∧ ss'.cells = ss.cells) → SrcOk A C ss' (L2.upd H A (srcO C ss')) := fun h =>
    ⟨upd_same, by rw [upd_ne nAC, h.2.2]; exact s.2.1, by rw [h.2.2]; exact s.2.2.1, h.1, by rw [h.2.2]; exact s.2.2.2.2.1, h.2.1⟩
  cases k with
  | left =>
    have e : (if 0 ≤ i then some { ss with left := i } else none) = some ss' := e
    split at e <;> cases e
    exact ⟨DPut.k (k := .inr "left") s.1 (hl _ rfl), fin ⟨‹_›, s.2.2.2.2.2, rfl⟩⟩
  | mixed =>
    cases e
    exact ⟨DPut.k (k := .inr "mixed") s.1 (hl _ rfl), fin ⟨s.2.2.2.1, s.2.2.2.2.2, rfl⟩⟩
  | turn =>
    have e : (if 0 ≤ i then some { ss with turn := i } else none) = some ss' := e
    split at e <;> cases e
    exact ⟨DPut.k (k := .inr "turn") s.1 (hl _ rfl), fin ⟨s.2.2.2.1, ‹_›, rfl⟩⟩
/-- the source changes -/
theorem Rp.srcGr (r : Rp K g F ss sl σ H) {o : HO} (hs : SrcOk g.A g.C ss' (L2.upd H g.A o)) : Gr g F F H (L2.upd H g.A o) := by
  refine ⟨fun a u e n1 _ => by rw [upd_ne n1]; exact e, fun _ h => h, fun _ h => .inl h, fun a f => ?_, r.fC, ss, ss', r.src, hs⟩
  obtain ⟨vs, e⟩ := r.dom a f
  exact ⟨vs, by rw [upd_ne (fun q : a = g.A => by rw [q, r.src.1] at e; cases e)]; exact e⟩
end
section
variable {X : Cx} {g : G} {sl : List SV} {D : Ends} {σ : L2.St} {H : Hp}
theorem LSs.sput {m : SS → O R} {k : SK} {i : Nat} (h : LSs X g (fun ss => (toD (m ss)).bind fun p => match isSrc sl i with
    | true => (sputD p.2 k p.1).map fun s => .nx sl s
    | false => none) sl D σ H) : sDPut (tVar i) (tC (.str k.name)) (LE X.K g m sl) D σ H := by
  obtain ⟨F, ss, out, e, rp, kq⟩ := h
  obtain ⟨⟨d, s1⟩, e1, e⟩ := bind_of e
  have e : (match isSrc sl i with | true => (sputD s1 k d).map fun s => Out.nx sl s | false => none) = some out := e
  split at e
  · rename_i hs
    obtain ⟨s2, e2, rfl⟩ := map_of e
    obtain ⟨r, e5, e6⟩ := O.f_of e1
    refine ⟨F, ss, r, s1, e5, rp, fun x H1 F1 g1 p1 h1 => ⟨_, p1.srcAt hs, ?_⟩⟩
    unfold sputD at e2
    split at e2
    · obtain rfl := (h1.rd e6).int
      obtain ⟨q1, q2⟩ := p1.src.dput e2
      have g2 := p1.srcGr q2
      exact ⟨_, _, rfl, q1, kq.nx (p1.step g2 q2) ((g1.ke rp.fC).trans (g2.ke p1.fC)) ((Lk.gr rp g1).trans (Lk.gr p1 g2))⟩
    · cases e2
  · cases e
theorem LSs.spop {i : Nat} (h : LSs X g (fun ss => match isSrc sl i, ss.cells with
    | true, c :: cs => some (.nx sl { ss with cells := cs, left := c })
    | _, _ => none) sl D σ H) : sDPut (tVar i) (tC (.str "left")) (tBM0 X.K "list" rPop (tDGet (tVar i) (tC (.str "cells")))) D σ H := by
  obtain ⟨F, ss, out, e, rp, kq⟩ := h
  have e : (match isSrc sl i, ss.cells with | true, c :: cs => some (Out.nx sl { ss with cells := cs, left := c }) | _, _ => none) = some out := e
  split at e
  · rename_i c cs hs hc
    cases e
    have nCA : g.C ≠ g.A := fun q => by
      have h1 := rp.src.1
      rw [← q, rp.src.2.1] at h1; cases h1
    have hd : (ss.cells.reverse.map V.int).dropLast = cs.reverse.map V.int := by rw [hc]; simp
    have hlast : (ss.cells.reverse.map V.int)[(ss.cells.reverse.map V.int).length - 1]? = some (.int c) := by rw [hc]; simp
    refine ⟨_, rp.srcAt hs, _, _, rfl, rp.src.getC, .inl ⟨rfl, _, .of rp.src.2.1⟩, _, _, _, rfl, rfl, rp.src.2.1, hlast, ?_⟩
    rw [hd]
    -- the cells, then the number
    have s1 : SrcOk g.A g.C { ss with cells := cs } (L2.upd H g.C (.lst (cs.reverse.map V.int))) :=
      ⟨by rw [upd_ne (Ne.symm nCA)]; exact rp.src.1, upd_same, fun x hx => rp.src.2.2.1 x (by rw [hc]; exact List.mem_cons_of_mem _ hx), rp.src.2.2.2.1, by have := rp.src.2.2.2.2.1; rw [hc] at this; simp at this ⊢; omega, rp.src.2.2.2.2.2⟩
    have g1 : Gr g F F H (L2.upd H g.C (.lst (cs.reverse.map V.int))) := by
      refine ⟨fun a u e _ n2 => by rw [upd_ne n2]; exact e, fun _ h => h, fun _ h => .inl h, fun a f => ?_, rp.fC, ss, _, rp.src, s1⟩
      obtain ⟨vs, e⟩ := rp.dom a f
      exact ⟨vs, by rw [upd_ne (fun q : a = g.C => rp.fC (q ▸ f))]; exact e⟩
    have p1 := rp.step g1 s1
    obtain ⟨q1, q2⟩ := s1.dput (k := .left) (i := c) (ss' := { ss with cells := cs, left := c }) (if_pos (rp.src.2.2.1 c (by rw [hc]; exact List.mem_cons_self)))
    have g2 := p1.srcGr q2
    exact ⟨_, p1.srcAt hs, _, _, rfl, q1, kq.nx (p1.step g2 q2) ((g1.ke rp.fC).trans (g2.ke p1.fC)) ((Lk.gr rp g1).trans (Lk.gr p1 g2))⟩
  · cases e
theorem LSs.appPop {m : SS → O R} {i j : Nat} (h : LSs X g (fun ss => (toD (m ss)).bind fun p => (ownL sl[i]?).bind fun xs => (ownL sl[j]?).bind fun ys => (Pm.popAt false ys p.1).bind fun q =>
      if xs.length < SL ∧ i ≠ j then some (.nx ((sl.set j (.own q.2)).set i (.own (xs ++ [q.1]))) p.2) else none) sl D σ H) :
    tDrop (tBM X.K "list" rAppend (tVar i) (tCons (tBM X.K "list" rPopAt (tVar j) (tCons (LE X.K g m sl) tNil)) tNil)) D σ H := by
  obtain ⟨F, ss, out, e, rp, k⟩ := h
  obtain ⟨⟨kd, s1⟩, e1, e⟩ := bind_of e
  obtain ⟨xs, e2, e⟩ := bind_of e
  obtain ⟨ys, e3, e⟩ := bind_of e
  have e2 := ownL_of e2
  have e3 := ownL_of e3
  obtain ⟨⟨d, zs⟩, e4, e⟩ := bind_of e
  have e : (if xs.length < SL ∧ i ≠ j then some (Out.nx ((sl.set j (.own zs)).set i (.own (xs ++ [d]))) s1) else none) = some out := e
  by_cases hc : xs.length < SL ∧ i ≠ j
  case neg => rw [if_neg hc] at e; cases e
  rw [if_pos hc] at e
  cases e
  obtain ⟨r, a1, b1⟩ := O.f_of e1
  rcases popAt_of e4 with ⟨z, _⟩ | ⟨_, kk, jj, z, e6, e7, rfl, hk1, hk2⟩
  · cases z
  · have z : kd = .int kk := z
    subst z
    obtain ⟨a, vs, ea, ha, _⟩ := rp.ownAt e2
    obtain ⟨b, ws, eb, hb, _⟩ := rp.ownAt e3
    refine ⟨_, ea, .inl ⟨rfl, vs, .of ha⟩, _, eb, .inl ⟨rfl, ws, .of hb⟩, F, ss, r, s1, a1, rp, fun x H1 F1 g1 p1 h1 => ?_⟩
    obtain rfl := (h1.rd b1).int
    obtain ⟨b', ws', eb', hb', hw⟩ := p1.ownAt e3
    rw [eb] at eb'
    cases eb'
    obtain ⟨v, e8, f8⟩ := hw.get e7
    obtain ⟨h1', h2', h3', h4'⟩ := ixN_seq e6
    obtain ⟨w1, w2, w3⟩ := p1.write e3 eb hb' (hw.erase jj)
    have hj : (sl.set j (.own (ys.eraseIdx jj)))[i]? = some (.own xs) := by rw [List.getElem?_set_ne (Ne.symm hc.2)]; exact e2
    obtain ⟨a', vs', ea', ha', hv⟩ := w1.ownAt hj
    rw [ea] at ea'
    cases ea'
    refine ⟨b, ws', kk, jj, v, rfl, rfl, hb', by omega, by omega, by rw [hw.length]; exact h1', e8, ?_⟩
    obtain ⟨u1, u2, u3⟩ := w1.write hj ea ha' (hv.append (.one (f8.keep w2)))
    exact ⟨a, vs', v, rfl, rfl, ha', by rw [hv.length, SL_eq]; exact hc.1, k.nx u1 (((g1.ke rp.fC).trans w2).trans u2) (((Lk.gr rp g1).trans w3).trans u3)⟩
/-- a list that no slot holds is written -/
theorem Rp.other {K : PySem.W.Frag} {F : Addr → Prop} {ss : SS} {a : Addr} {vs ws : List V} (r : Rp K g F ss sl σ H) (hD : H a = some (.lst vs)) (nF : ¬ F a) (nC : a ≠ g.C) (ne : g.He a = none)
    (ns : ∀ (j : Nat) (t : SV) (b : Addr), sl[j]? = some t → t.ow = true → σ[j]? = some (some (.ref b)) → b ≠ a) : Rp K g F ss sl σ (L2.upd H a (.lst ws)) ∧ Ke K F F H (L2.upd H a (.lst ws)) := by
  have nA : a ≠ g.A := fun q => by rw [q, r.src.1] at hD; cases hD
  have ke : Ke K F F H (L2.upd H a (.lst ws)) := by
    refine ⟨fun c us s => ?_, fun c us f e => ⟨f, by rw [upd_ne (fun q : c = a => nF (q ▸ f))]; exact e⟩⟩
    rcases s with (s | ⟨o, s⟩) | s
    · exact .inl (.inl (by rw [upd_ne (fun q : c = a => by rw [q, hD] at s; cases s)]; exact s))
    · exact .inl (.inr ⟨o, by rw [upd_ne (fun q : c = a => by rw [q, hD] at s; cases s)]; exact s⟩)
    · exact .inr s
  refine ⟨⟨r.len, fun j t ej => ?_, r.apart, fun c o q n1 n2 => ?_, r.frz, fun c f => ?_, r.fe, r.fC, r.eS, r.src.upd (Ne.symm nA) (Ne.symm nC)⟩, ke⟩
  · obtain ⟨x, e2, h⟩ := r.slot j t ej
    have na : ∀ {b : Addr}, t.ow = true → x = some (.ref b) → b ≠ a := fun {b} ho q => by
      subst q
      exact ns j t b ej ho e2
    refine ⟨x, e2, ?_⟩
    cases t with
    | un => trivial
    | v d => obtain ⟨v, q, h⟩ := h; exact ⟨v, q, h.keep ke⟩
    | own zs => obtain ⟨b, us, q, k1, k2, k3⟩ := h; exact ⟨b, us, q, by rw [upd_ne (na rfl q)]; exact k1, k2.keep ke, k3⟩
    | lock zs => obtain ⟨b, us, q, k1, k2, k3⟩ := h; exact ⟨b, us, q, by rw [upd_ne (na rfl q)]; exact k1, k2.keep ke, k3⟩
    | dk zs => obtain ⟨b, us, q, k1, k2, k3⟩ := h; exact ⟨b, us, q, by rw [upd_ne (na rfl q)]; exact k1, Paired.mapP k2 fun _ _ z => ⟨z.1, z.2.keep ke⟩, k3⟩
    | dt zs => obtain ⟨b, us, q, k1, k2, k3⟩ := h; exact ⟨b, us, q, by rw [upd_ne (na rfl q)]; exact k1, Paired.mapP k2 fun _ _ z => ⟨z.1, z.2.keep ke⟩, k3⟩
    | src => exact h
  · rw [upd_ne (fun z : c = a => by rw [z, ne] at q; cases q)]
    exact r.ent c o q n1 n2
  · obtain ⟨us, q⟩ := r.dom c f
    exact ⟨us, by rw [upd_ne (fun z : c = a => nF (z ▸ f))]; exact q⟩
/-- the reading of a draw's argument -/
abbrev tLenOf (K : PySem.W.Frag) (r : Nat) : TE := tCB (fun xs H Q => ∃ p ys, xs = [.ref p] ∧ (SqL K H p ys ∨ SqT K H p ys) ∧ Q (.int ys.length) H) (tCons (tVar r) tNil)
theorem LSs.rmix {r s lap np : Nat} {f : Fn} (hnp : ∀ as ss z, f as ss = some z → as.length = np) (h : LSs X g (fun ss => (ownL sl[r]?).bind fun xs => match isSrc sl s with
    | true => if xs.length ≤ SL ∧ lap ≠ r ∧ lap ≠ s then (mixD f xs.length xs ss).map fun p => .rt (.fr p.1) p.2 else none
    | false => none) sl D σ H) :
    tRet (tLc (iRng1 (tCons (tLenOf X.K r) tNil)) (gName lap) (fun _ H Q => Q true H) (tBM X.K "list" rPopAt (tVar r) (tCons (fun σ H Q => (tCons (tVar s) (tCons (tLenOf X.K r) tNil)) σ H fun vs H1 => spF X.K np f vs H1 Q) tNil)) [lap]) D σ H := by
  obtain ⟨F, ss, out, e, rp, k⟩ := h
  obtain ⟨xs, e1, e⟩ := bind_of e
  have e1 := ownL_of e1
  split at e
  case h_2 => cases e
  rename_i hs
  by_cases hc : xs.length ≤ SL ∧ lap ≠ r ∧ lap ≠ s
  case neg => rw [if_neg hc] at e; cases e
  rw [if_pos hc] at e
  obtain ⟨⟨ys, s'⟩, e2, rfl⟩ := map_of e
  obtain ⟨hlen, nr, ns⟩ := hc
  obtain ⟨a, vs, ea, ha, hv⟩ := rp.ownAt e1
  have es := rp.srcAt hs
  have hr : r < sl.length := (List.getElem?_eq_some_iff.mp e1).1
  refine ⟨_, ea, _, _, rfl, .inl (.of ha), (vs.length : Int), rfl, by omega, by rw [hv.length]; have : SL = 16777216 := rfl; omega, fun A hA => ?_⟩
  have own_ne : ∀ (j : Nat) (t : SV) (b : Addr), sl[j]? = some t → t.ow = true → σ[j]? = some (some (.ref b)) → b ≠ A := fun j t b h1 h2 h3 q => by
    subst q
    obtain ⟨o, e⟩ := rp.owned h1 h2 h3
    rw [hA] at e; cases e
  have own_ne' : ∀ (zs : List Pm.D) (j : Nat) (t : SV) (b : Addr), (sl.set r (.own zs))[j]? = some t → t.ow = true → σ[j]? = some (some (.ref b)) → b ≠ A := fun zs j t b h1 h2 h3 => by
    by_cases hj : r = j
    · subst hj; exact own_ne r _ b e1 rfl h3
    · rw [List.getElem?_set_ne hj] at h1; exact own_ne j t b h1 h2 h3
  have neA := own_ne r _ a e1 rfl ea
  have hHe : g.He A = none := by
    cases q : g.He A with
    | none => rfl
    | some o =>
      obtain ⟨n1, n2⟩ := rp.srcNe hA
      rw [rp.ent A o q (Ne.symm n1) (Ne.symm n2)] at hA; cases hA
  have nAC : A ≠ g.C := (rp.srcNe hA).2.symm
  have sset : sl.set r (.own xs) = sl := by
    apply List.ext_getElem?
    intro j
    by_cases hj : r = j
    · subst hj; rw [List.getElem?_set_self hr, e1]
    · rw [List.getElem?_set_ne hj]
  let St (i : Nat) (H' : Hp) : Prop := ∃ F2 t xs2 acc av rest, i ≤ vs.length ∧ Rp X.K g F2 t (sl.set r (.own xs2)) σ H' ∧ H' A = some (.lst av) ∧ FDs X.K F2 H' av acc ∧ ¬ F2 A ∧ acc.length ≤ i ∧ mixD f (vs.length - i) xs2 t = some (rest, s') ∧ acc ++ rest = ys
  have r0 := rp.grUpd (o := .lst []) hA
  refine ⟨fun i m H' => m = vs.length - i ∧ St i H', ⟨_, rfl, F, ss, xs, [], [], ys, Nat.zero_le _, ?_, upd_same, .nil, rp.at.nf hA, Nat.le_refl _, by rw [Nat.sub_zero, hv.length]; exact e2, rfl⟩, ?_⟩
  · rw [sset]
    exact rp.step r0 (rp.src.upd (rp.srcNe hA).1 (rp.srcNe hA).2)
  rintro i m H2 ⟨rfl, F2, t, xs2, acc, av, rest, hi, p2, hav, hacc, nF, hal, hm, hys⟩
  by_cases hlt : i < vs.length
  · refine .inr ⟨by show i < _; simpa using hlt, St (i + 1), fun H' z => ⟨_, by omega, rfl, z⟩, ?_⟩
    rintro x H3 ⟨rfl, _⟩
    refine ⟨?_, ?_⟩
    · show wipe _ [lap] = wipe _ [lap]
      simp [wipe, List.set_set]
    refine iteT ?_
    have σr : ((wipe σ [lap]).set lap (some x))[r]? = some (some (.ref a)) := by
      rw [List.getElem?_set_ne nr]
      show (σ.set lap none)[r]? = _
      rw [List.getElem?_set_ne nr]; exact ea
    have σs : ((wipe σ [lap]).set lap (some x))[s]? = some (some (.ref g.A)) := by
      rw [List.getElem?_set_ne ns]
      show (σ.set lap none)[s]? = _
      rw [List.getElem?_set_ne ns]; exact es
    have hx2 : (sl.set r (.own xs2))[r]? = some (.own xs2) := List.getElem?_set_self hr
    obtain ⟨a2, vs2, ea2, ha2, hv2⟩ := p2.ownAt hx2
    rw [ea] at ea2
    cases ea2
    have en : vs.length - i = (vs.length - (i + 1)) + 1 := by omega
    rw [en] at hm
    unfold mixD at hm
    obtain ⟨⟨z, s1⟩, f1, hm⟩ := bind_of hm
    cases z <;> first | (cases hm; done) | skip
    rename_i d
    obtain ⟨⟨y, zs⟩, f2, hm⟩ := bind_of hm
    obtain ⟨⟨rest', s2⟩, f3, f4⟩ := map_of hm
    cases f4
    refine ⟨_, σr, .inl ⟨rfl, vs2, .of ha2⟩, _, σs, _, σr, _, _, rfl, .inl (.of ha2), (hnp _ _ _ f1).symm ▸ rfl, g, F2, t, _, _, _, f1, rfl, p2.at, .src (.v (by rw [hv2.length]; exact .int _) .nil), fun w H4 F4 g4 s4 h4 => ?_⟩
    have p4 := p2.step g4 s4
    have h4 : FD X.K F4 H4 w d := h4
    rcases popAt_of f2 with ⟨q, _⟩ | ⟨_, kk, jj, rfl, e6, e7, rfl, hk1, hk2⟩
    · cases q
    · cases h4
      obtain ⟨a4, vs4, ea4, ha4, hv4⟩ := p4.ownAt hx2
      rw [ea] at ea4
      cases ea4
      obtain ⟨v, e8, f8⟩ := hv4.get e7
      obtain ⟨h1', h2', h3', h4'⟩ := ixN_seq e6
      obtain ⟨w1, w2, w3⟩ := p4.write hx2 ea ha4 (hv4.erase jj)
      refine ⟨a, vs4, kk, jj, v, rfl, rfl, ha4, by omega, by omega, by rw [hv4.length]; exact h1', e8, av, ?_, ?_, ?_⟩
      · rw [upd_ne (Ne.symm neA)]
        exact g4.keep A _ hav (rp.srcNe hA).1.symm nAC
      · rw [hacc.length, SL_eq]
        have := hv.length
        omega
      · have nF4 : ¬ F4 A := fun q => by
          rcases g4.new A q with q | q
          · exact nF q
          · rw [hav] at q; cases q
        have hav4 : (L2.upd H4 a (.lst (vs4.eraseIdx jj))) A = some (.lst av) := by rw [upd_ne (Ne.symm neA)]; exact g4.keep A _ hav (rp.srcNe hA).1.symm nAC
        rw [List.set_set] at w1
        obtain ⟨u1, u2⟩ := w1.other (ws := av ++ [v]) hav4 nF4 nAC hHe (own_ne' _)
        refine ⟨F4, s1, _, acc ++ [y], av ++ [v], rest', hlt, u1, upd_same, (((hacc.keep (g4.ke p2.fC)).keep w2).append (.one (f8.keep w2))).keep u2, nF4, by rw [List.length_append, List.length_singleton]; omega, f3, by rw [List.append_assoc]; exact hys⟩
  · have ei : i = vs.length := by omega
    subst ei
    rw [Nat.sub_self] at hm
    cases hm
    rw [List.append_nil] at hys
    subst hys
    exact .inl ⟨by show _ ≤ _; simp, k _ H2 F2 p2.entry p2.src ⟨A, av, rfl, hav, hacc, nF, hHe⟩⟩
end
end Pm
namespace Pm
open PySem PySem.Spec PyProof.Rows L2
theorem chkA_len {sc : Scope} {N : List Str} : ∀ {cs : List Pm.CE} {es : List Expr}, chkA sc N cs es = true → cs.length = es.length
  | [], [], _ => rfl
  | [], _ :: _, h => absurd h Bool.false_ne_true
  | _ :: _, [], h => absurd h Bool.false_ne_true
  | c :: cs, e :: es, h => by
    have h : (vl c && chkE sc N c e && chkA sc N cs es) = true := h
    rw [Bool.and_eq_true] at h
    simp [chkA_len h.2]
local macro_rules | `(tactic| decreasing_tactic) => `(tactic| first
  | (simp; omega)
  | (simp_wf; omega)
  | (simp_wf; simp; omega))
theorem LS.none {K : PySem.W.Frag} {g : G} {D : Ends} {σ : L2.St} {H : Hp} {m : List SV → SS → Option Out} (hm : ∀ sl ss, m sl ss = none) (h : LS K g m D σ H) : tNever D σ H := by
  obtain ⟨F, ss, sl, out, e, _⟩ := h
  rw [hm] at e; cases e
theorem rmix_ok {X : Cx} {g : G} {j : Nat} (G : GoodS X j) {r s l : Nat} {fx x y z m f ln x' rg ln' x'' : Str} {F : Fn} {scope : Scope} {as : Int} {p0 p1 p2 p3 p4 p5 p6 p7 p8 p9 p10 ap cp p11 p12 pos pos' : Pos} (C : CallsOk X j [(fx, F)])
    (h0 : (as == 0) = true) (h1 : blkB X.N X.env.scope scope [(X.N.getD l "", l)] = true) (h2 : (X.N[r]? == some x) = true) (h3 : (X.N[s]? == some y) = true) (h4 : (X.N[l]? == some z) = true) (h5 : locB scope z = true) (h6 : visB (relS scope X.env.scope) x = true) (h7 : noDbg x = true) (h8 : visB (relS scope X.env.scope) y = true) (h9 : noDbg y = true)
    (h10 : (m == "pop") = true) (h11 : (ap.endLine == cp.line) = true) (h12 : (f == fx) = true) (h13 : gloB (relS scope X.env.scope) f = true) (h14 : noDbg f = true) (h15 : (ln == "len") = true) (h16 : gloB (relS scope X.env.scope) ln = true) (h17 : (x' == x) = true) (h18 : rangeB X.env.scope rg = true) (h19 : (ln' == "len") = true) (h20 : gloB X.env.scope ln' = true) (h21 : (x'' == x) = true) (h22 : visB X.env.scope x = true) :
    PS X (.Return (some (.ListComp (.Call (.Attribute (.Name x p0) m ap) [.Call (.Name f p1) [.Name y p2, .Call (.Name ln p3) [.Name x' p4] [] p5] [] p6] [] cp) [⟨.Name z p7, .Call (.Name rg p8) [.Call (.Name ln' p9) [.Name x'' p10] [] p11] [] p12, [], as⟩] scope pos)) pos') (LS X.K g (ex (.rmix r s l fx F))) := by
  obtain rfl : as = 0 := eq_of_beq h0
  obtain rfl : m = "pop" := eq_of_beq h10
  obtain rfl : f = fx := eq_of_beq h12
  obtain rfl : ln = "len" := eq_of_beq h15
  obtain rfl : x' = x := eq_of_beq h17
  obtain rfl : ln' = "len" := eq_of_beq h19
  obtain rfl : x'' = x' := eq_of_beq h21
  have h18 : (rg == "range" && gloB X.env.scope "range") = true := h18
  rw [Bool.and_eq_true] at h18
  obtain rfl : rg = "range" := eq_of_beq h18.1
  obtain ⟨k, hk, a, fd, ps, np, Fn, e1, e2, e3, e4, e5⟩ := C _ (List.mem_singleton.mpr rfl)
  have ok : BlkOk X.N X.env.scope scope [(X.N.getD l "", l)] := blk_ok h1
  refine PS.ofSl fun sl => ?_
  have hI := pi_range1 (X := X) (tg := .Name z p7) (p := p8) (pos := p12) (gl_of h18.2) (G.blt "range" (by decide +kernel)) (pa_cons (pe_callB (p := p9) (pos := p11) call_len_seq (gl_of h20) (G.blt "len" (by decide +kernel)) boot_len (pa_cons (pv_of (p := p10) h2 h22 h7) pa_nil)) pa_nil)
  have key := pe_lc (X := X) (elt := (.Call (.Attribute (.Name x'' p0) "pop" ap) [.Call (.Name f p1) [.Name y p2, .Call (.Name "len" p3) [.Name x'' p4] [] p5] [] p6] [] cp)) (pos := pos) (own := [(X.N.getD l "", l)]) G.calm G.nd hI ok
    (g := gName l) (tt := fun _ H Q => Q true H) (te := tBM X.K "list" rPopAt (tVar r) (tCons (fun σ H Q => (tCons (tVar s) (tCons (tLenOf X.K r) tNil)) σ H fun vs H1 => spF X.K np F vs H1 Q) tNil))
    (fun s' H C' cl fp => pg_name G.nd (eq_of_beq h4) (st_of (X := X) (s := s') (H := H) (cenv := compEnvC scope cl C' X.env) (fp := fp) (sc := X.env.scope) ok.uniq rfl z h5).1 (st_of (X := X) (s := s') (H := H) (cenv := compEnvC scope cl C' X.env) (fp := fp) (sc := X.env.scope) ok.uniq rfl z h5).2)
    (fun s' H C' cl fp => pts_nil)
    (fun s' H C' cl fp => by
      have Gb : Good (X.blk s' H scope (compEnvC scope cl C' X.env) fp) j := G.toGood.blk _ _ _ _ _
      refine pe_bm (X := X.blk s' H scope (compEnvC scope cl C' X.env) fp) PySem.F.plainAttrs_list PySem.F.slot_list_pop PySem.F.type_list_pop mt_popAt (pe_var (eq_of_beq h2) (vis_of h6) (dbg_of h7).1 (dbg_of h7).2) (pa_cons ?_ pa_nil) rfl rfl h11 rfl rfl
      exact pe_callG Fn (Gb.room.mono hk) Gb.gu (gl_of (X := X.blk s' H scope (compEnvC scope cl C' X.env) fp) h13) e2 e3 e4 (dbg_of h14).1 (pa_cons (pe_var (eq_of_beq h3) (vis_of h8) (dbg_of h9).1 (dbg_of h9).2)
        (pa_cons (pe_callB call_len_seq (gl_of (X := X.blk s' H scope (compEnvC scope cl C' X.env) fp) h16) (G.blt "len" (by decide +kernel)) boot_len (pa_cons (pe_var (eq_of_beq h2) (vis_of h6) (dbg_of h7).1 (dbg_of h7).2) pa_nil)) pa_nil)) rfl rfl)
    (noset_fold rfl)
  exact PS.imp (ps_ret key) fun D σ H q => LSs.rmix e5 q
mutual
theorem ex_ok {X : Cx} (g : G) {j : Nat} (G : GoodS X j) : ∀ (c : CS) (st : Stmt), CallsOk X j (callsS c) → GlobsOk X (globsS c) → chkS X.env.scope X.N c st = true → PS X st (LS X.K g (ex c))
  | .set i e, st, C, B, h => by
    unfold chkS at h
    split at h <;> first | (cases h; done) | (rename_i heq; cases heq; done) | (rename_i heq; cases heq)
    simp only [Bool.and_eq_true, Bool.not_eq_true'] at h
    exact set_ok G C B h.1.1.1.1 h.1.1.1.2 h.1.1.2 h.1.2 h.2
  | .unp t e, st, C, B, h => by
    unfold chkS at h
    split at h <;> first | (cases h; done) | (rename_i heq; cases heq; done) | (rename_i heq; cases heq)
    simp only [Bool.and_eq_true, Bool.not_eq_true'] at h
    exact unp_ok G C B h.1.1.1.1.1 h.1.1.1.1.2 h.1.1.1.2 h.1.1.2 h.1.2 h.2
  | .par js es, st, C, B, h => by
    unfold chkS at h
    split at h <;> first | (cases h; done) | (rename_i heq; cases heq; done) | (rename_i heq; cases heq)
    rw [Bool.and_eq_true, Bool.and_eq_true] at h
    exact par_ok G C B h.1.1 h.2 (eq_of_beq h.1.2)
  | .sto i k e, st, C, B, h => by
    unfold chkS at h
    split at h <;> first | (cases h; done) | (rename_i heq; cases heq; done) | (rename_i heq; cases heq)
    simp only [Bool.and_eq_true, Bool.not_eq_true'] at h
    exact sto_ok G C B h.1.1.1.1.1.1.1 h.1.1.1.1.1.1.2 h.1.1.1.1.1.2 h.1.1.1.1.2 h.1.1.1.2 h.1.1.2 h.1.2 h.2
  | .dput i k e, st, C, B, h => by
    unfold chkS at h
    split at h <;> first | (cases h; done) | (rename_i heq; cases heq; done) | (rename_i heq; cases heq)
    simp only [Bool.and_eq_true, Bool.not_eq_true'] at h
    obtain ⟨⟨⟨⟨⟨⟨⟨q1, q2⟩, q3⟩, q4⟩, q5⟩, q6⟩, q7⟩, q8⟩ := h
    exact PS.ofSl fun sl => PS.imp (ps_dput (by have := G.toGood.u; omega) (pv_of q1 q2 q3) (ev_ok g k X _ sl G.toGood C.app.1 B.app.1 q4 q5) (ev_ok g e X _ sl G.toGood C.app.2 B.app.2 q6 q7) (sw_sub q8)) fun D σ H q => LSs.dput q
  | .sto2 i k l m e f, st, C, B, h => by
    unfold chkS at h
    split at h <;> first | (cases h; done) | (rename_i heq; cases heq; done) | (rename_i heq; cases heq)
    simp only [Bool.and_eq_true] at h
    obtain ⟨⟨⟨⟨⟨⟨⟨⟨⟨⟨⟨⟨⟨a1, a2⟩, a3⟩, a4⟩, a5⟩, b1⟩, b2⟩, b3⟩, b4⟩, b5⟩, c1⟩, c2⟩, d1⟩, d2⟩ := h
    exact sto2_ok G C B a1 a2 a3 a4 a5 b1 b2 b3 b4 b5 c1 c2 d1 d2
  | .aug i o e, st, C, B, h => by
    unfold chkS at h
    split at h <;> first | (cases h; done) | (rename_i heq; cases heq; done) | (rename_i heq; cases heq)
    simp only [Bool.and_eq_true] at h
    exact aug_ok' G C B h.1.1.1.1 h.1.1.1.2 h.1.1.2 h.1.2 h.2
  | .augs i k o e, st, C, B, h => by
    unfold chkS at h
    split at h <;> first | (cases h; done) | (rename_i heq; cases heq; done) | (rename_i heq; cases heq)
    simp only [Bool.and_eq_true] at h
    exact augs_ok G C B h.1.1.1.1.1.1.1 h.1.1.1.1.1.1.2 h.1.1.1.1.1.2 h.1.1.1.1.2 h.1.1.1.2 h.1.1.2 h.1.2 h.2
  | .app i e, st, C, B, h => by
    unfold chkS at h
    split at h <;> first | (cases h; done) | (rename_i heq; cases heq; done) | (rename_i heq; cases heq)
    simp only [Bool.and_eq_true] at h
    exact app_ok G C B h.1.1.1.1.1.1 h.1.1.1.1.1.2 h.1.1.1.1.2 h.1.1.1.2 h.1.1.2 h.1.2 h.2
  | .ext i e, st, C, B, h => by
    unfold chkS at h
    split at h <;> first | (cases h; done) | (rename_i heq; cases heq; done) | (rename_i heq; cases heq)
    simp only [Bool.and_eq_true] at h
    exact ext_ok G C B h.1.1.1.1.1.1 h.1.1.1.1.1.2 h.1.1.1.1.2 h.1.1.1.2 h.1.1.2 h.1.2 h.2
  | .popS l i k, st, C, B, h => by
    unfold chkS at h
    split at h <;> first | (cases h; done) | (rename_i heq; cases heq; done) | (rename_i heq; cases heq)
    rw [Bool.and_eq_true, Bool.and_eq_true, Bool.and_eq_true, Bool.and_eq_true, Bool.and_eq_true, Bool.and_eq_true, Bool.and_eq_true] at h
    obtain ⟨⟨⟨⟨⟨⟨⟨a1, a2⟩, a3⟩, a4⟩, a5⟩, a6⟩, a7⟩, h⟩ := h
    split at h
    · exact pop0_ok G a1 a2 a3 a4 a5 a6 a7 h
    · simp only [Bool.and_eq_true, Bool.not_eq_true'] at h
      exact popAt_ok G C B a1 a2 a3 a4 a5 a6 a7 h.1.2 h.2 h.1.1
    · cases h
  | .exp e, st, C, B, h => by
    unfold chkS at h
    split at h <;> first | (cases h; done) | (rename_i heq; cases heq; done) | (rename_i heq; cases heq)
    · refine PS.imp ps_doc fun D σ H q => ?_
      obtain ⟨F, ss, sl, out, e, rp, k⟩ := q
      cases e
      exact k.nx rp .refl .refl
    · rw [Bool.and_eq_true, Bool.and_eq_true, Bool.and_eq_true] at h
      obtain ⟨⟨⟨a1, a2⟩, a3⟩, a4⟩ := h
      refine PS.ofSl fun sl => PS.imp (ps_expr (ev_ok g e X _ sl G.toGood C B a1 a2) (sw_no (by simpa using a3) fun a b c d z => ?_)) fun D σ H q => LSs.exp q
      subst z; exact absurd a4 Bool.false_ne_true
  | .ite c a b, st, C, B, h => by
    unfold chkS at h
    split at h <;> first | (cases h; done) | (rename_i heq; cases heq; done) | (rename_i heq; cases heq)
    simp only [Bool.and_eq_true] at h
    exact PS.ofSl fun sl => PS.imp (ps_if (evT_ok g c X _ sl G.toGood C.app.1.app.1 B.app.1.app.1 h.1.1.1 h.1.1.2) (exs_ok g G a _ C.app.1.app.2 B.app.1.app.2 h.1.2) (exs_ok g G b _ C.app.2 B.app.2 h.2)) fun D σ H q => LSs.ite q
  | .forr t it body, st, C, B, h => by
    unfold chkS at h
    split at h <;> first | (cases h; done) | (rename_i heq; cases heq; done) | (rename_i heq; cases heq)
    rw [Bool.and_eq_true, Bool.and_eq_true, Bool.and_eq_true, Bool.and_eq_true, Bool.and_eq_true] at h
    obtain ⟨⟨⟨⟨⟨a1, a2⟩, a3⟩, a4⟩, a5⟩, a6⟩ := h
    exact for_ok G C.app.1 B.app.1 a1 a2 a3 (by simpa using a4) (exs_ok g G body _ C.app.2 B.app.2 a6)
  | .whl c body, st, C, B, h => by
    unfold chkS at h
    split at h <;> first | (cases h; done) | (rename_i heq; cases heq; done) | (rename_i heq; cases heq)
    simp only [Bool.and_eq_true] at h
    exact PS.ofSl fun sl => PS.imp (ps_while G.own (pt_x fun sl => evT_ok g c X _ sl G.toGood C.app.1 B.app.1 h.1.1 h.1.2) (exs_ok g G body _ C.app.2 B.app.2 h.2)) fun D σ H q => LSs.whl q
  | .ret e, st, C, B, h => by
    unfold chkS at h
    split at h <;> first | (cases h; done) | (rename_i heq; cases heq; done) | (rename_i heq; cases heq)
    simp only [Bool.and_eq_true] at h
    exact PS.ofSl fun sl => PS.imp (ps_ret (ev_ok g e X _ sl G.toGood C B h.1 h.2)) fun D σ H q => LSs.ret q
  | .retn, st, C, B, h => by
    unfold chkS at h
    split at h <;> first | (cases h; done) | (rename_i heq; cases heq; done) | (rename_i heq; cases heq)
    exact PS.ofSl fun sl => PS.imp ps_retN fun D σ H q => LSs.retn q
  | .never, st, C, B, h => PS.imp ps_never fun D σ H q => LS.none (fun _ _ => rfl) q
  | .sput k i e, st, C, B, h => by
    unfold chkS at h
    split at h <;> first | (cases h; done) | (rename_i heq; cases heq; done) | (rename_i heq; cases heq)
    simp only [Bool.and_eq_true, Bool.not_eq_true'] at h
    obtain ⟨⟨⟨⟨⟨⟨q1, q2⟩, q3⟩, q4⟩, q5⟩, q6⟩, q7⟩ := h
    obtain rfl := eq_of_beq q4
    exact PS.ofSl fun sl => PS.imp (ps_dput (by have := G.toGood.u; omega) (pv_of q1 q2 q3) pe_str (ev_ok g e X _ sl G.toGood C B q5 q6) (sw_sub q7)) fun D σ H q => LSs.sput q
  | .spop i, st, C, B, h => by
    unfold chkS at h
    split at h <;> first | (cases h; done) | (rename_i heq; cases heq; done) | (rename_i heq; cases heq)
    simp only [Bool.and_eq_true] at h
    obtain ⟨⟨⟨⟨⟨⟨⟨q1, q2⟩, q3⟩, q4⟩, q5⟩, q6⟩, q7⟩, q8⟩ := h
    obtain rfl := eq_of_beq q4
    obtain rfl := eq_of_beq q5
    obtain rfl := eq_of_beq q6
    obtain rfl := eq_of_beq q7
    exact PS.ofSl fun sl => PS.imp (ps_dput (by have := G.toGood.u; omega) (pv_of q1 q2 q3) pe_str (pe_bm0 PySem.F.plainAttrs_list PySem.F.slot_list_pop PySem.F.type_list_pop mt_pop (pe_dget (by have := G.toGood.u; omega) (pv_of q1 q2 q3) pe_str (fun _ _ => rfl)) rfl q8) rfl) fun D σ H q => LSs.spop q
  | .appPop i l e, st, C, B, h => by
    unfold chkS at h
    split at h <;> first | (cases h; done) | (rename_i heq; cases heq; done) | (rename_i heq; cases heq)
    simp only [Bool.and_eq_true] at h
    obtain ⟨⟨⟨⟨⟨⟨⟨⟨⟨⟨⟨a1, a2⟩, a3⟩, a4⟩, a5⟩, b1⟩, b2⟩, b3⟩, b4⟩, b5⟩, c1⟩, c2⟩ := h
    obtain rfl := eq_of_beq a4
    obtain rfl := eq_of_beq b4
    exact PS.ofSl fun sl => PS.imp (ps_expr (pe_bm PySem.F.plainAttrs_list PySem.F.slot_list_append PySem.F.type_list_append mt_append (pv_of a1 a2 a3) (pa_cons
      (pe_bm PySem.F.plainAttrs_list PySem.F.slot_list_pop PySem.F.type_list_pop mt_popAt (pv_of b1 b2 b3) (pa_cons (ev_ok g e X _ sl G.toGood C B c1 c2) pa_nil (star_cons (chk_star c2))) rfl (by rw [star_cons (chk_star c2)]; rfl) b5 (star_cons (chk_star c2)) rfl)
      pa_nil) rfl rfl a5 rfl rfl) rfl) fun D σ H q => LSs.appPop q
  | .rmix r s l fx f, st, C, B, h => by
    unfold chkS at h
    split at h <;> first | (cases h; done) | (rename_i heq; cases heq; done) | (rename_i heq; cases heq)
    simp only [Bool.and_eq_true] at h
    obtain ⟨⟨⟨⟨⟨⟨⟨⟨⟨⟨⟨⟨⟨⟨⟨⟨⟨⟨⟨⟨⟨⟨h0, h1⟩, h2⟩, h3⟩, h4⟩, h5⟩, h6⟩, h7⟩, h8⟩, h9⟩, h10⟩, h11⟩, h12⟩, h13⟩, h14⟩, h15⟩, h16⟩, h17⟩, h18⟩, h19⟩, h20⟩, h21⟩, h22⟩ := h
    exact rmix_ok G C h0 h1 h2 h3 h4 h5 h6 h7 h8 h9 h10 h11 h12 h13 h14 h15 h16 h17 h18 h19 h20 h21 h22
  | .frz i, st, C, B, h => by
    unfold chkS at h
    cases h
  | .kill js, st, C, B, h => by
    unfold chkS at h
    cases h
termination_by c => sizeOf c
theorem exs_ok {X : Cx} (g : G) {j : Nat} (G : GoodS X j) : ∀ (cs : List CS) (sts : List Stmt), CallsOk X j (callsSs cs) → GlobsOk X (globsSs cs) → chkSs X.env.scope X.N cs sts = true → PSs X sts (LS X.K g (exs cs))
  | [], sts, C, B, h => by
    cases sts with
    | nil =>
      refine PSs.imp pss_nil fun D σ H q => ?_
      obtain ⟨F, ss, sl, out, e, rp, k⟩ := q
      cases e
      exact k.nx rp .refl .refl
    | cons s ss => exact absurd h Bool.false_ne_true
  | c :: cs, sts, C, B, h => by
    by_cases hf : ∃ i, c = .frz i
    · obtain ⟨i, rfl⟩ := hf
      refine PSs.imp (exs_ok g G cs sts C.app.2 B.app.2 h) fun D σ H q => ?_
      obtain ⟨F, ss, sl, out, e, rp, k⟩ := q
      obtain ⟨F', p1, k1, l1⟩ := rp.freeze (i := i)
      exact ⟨F', ss, frzS sl i, out, e, p1, k.trans k1 l1⟩
    · by_cases hk : ∃ js, c = .kill js
      · obtain ⟨js, rfl⟩ := hk
        refine PSs.imp (exs_ok g G cs sts C.app.2 B.app.2 h) fun D σ H q => ?_
        obtain ⟨F, ss, sl, out, e, rp, k⟩ := q
        exact ⟨F, ss, killS js sl, out, e, rp.kill0 js, k.trans .refl Lk.kill⟩
      · cases sts with
        | nil =>
          unfold chkSs at h
          split at h
          · cases ‹c :: cs = []›
          · exact absurd ⟨_, (List.cons.inj ‹_›).1⟩ hf
          · exact absurd ⟨_, (List.cons.inj ‹_›).1⟩ hk
          · cases ‹[] = _ :: _›
          · cases h
        | cons s ss =>
          have h' : (chkS X.env.scope X.N c s && chkSs X.env.scope X.N cs ss) = true := by
            unfold chkSs at h
            split at h
            · cases ‹c :: cs = []›
            · exact absurd ⟨_, (List.cons.inj ‹_›).1⟩ hf
            · exact absurd ⟨_, (List.cons.inj ‹_›).1⟩ hk
            · rename_i e1 e2
              cases e1; cases e2; exact h
            · cases h
          rw [Bool.and_eq_true] at h'
          exact PSs.imp (pss_cons (ex_ok g G c s C.app.1 B.app.1 h'.1) (exs_ok g G cs ss C.app.2 B.app.2 h'.2)) fun D σ H q => LS.seq q
termination_by cs => sizeOf cs
end
end Pm
namespace Pm
open PySem PySem.Spec PyProof.Rows L2
theorem Gr.ghost {g g' : G} {F F' : Addr → Prop} {H H' : Hp} (h : Gr g F F' H H') (hA : g'.A = g.A) (hC : g'.C = g.C) : Gr g' F F' H H' := by
  obtain ⟨a, c, he, fe⟩ := g'
  obtain ⟨a', c', he', fe'⟩ := g
  obtain rfl : a = a' := hA
  obtain rfl : c = c' := hC
  exact ⟨h.keep, h.sub, h.new, h.dom, h.fC, h.src⟩
theorem start_rp {K : PySem.W.Frag} {g : G} {F : Addr → Prop} {ss : SS} {H : Hp} (a : At K g F ss H) : ∀ {as : List AV} {vs : List V} {n : Nat}, AsOk K g F H as vs →
    Rp K ⟨g.A, g.C, H, F⟩ F ss (as.map AV.sv ++ List.replicate n .un) (vs.map some ++ List.replicate n none) H := by
  intro as vs n h
  have noown : ∀ (i : Nat) (s : SV), (as.map AV.sv ++ List.replicate n .un)[i]? = some s → s.ow = false := by
    intro i s e
    have hm := List.mem_of_getElem? e
    rcases List.mem_append.mp hm with hm | hm
    · obtain ⟨x, _, rfl⟩ := List.mem_map.mp hm
      cases x <;> rfl
    · rw [(List.mem_replicate.mp hm).2]; rfl
  refine ⟨by simp [h.length], ?_, fun i j s t b _ e1 _ e2 => ?_, fun _ _ e _ _ => e, fun a f => .inl f, a.dom, fun _ f => f, a.fC, ⟨ss, a.src⟩, a.src⟩
  · induction h with
    | nil =>
      intro i s e
      simp only [List.map_nil, List.nil_append] at e ⊢
      have hi : i < n := by have := (List.getElem?_eq_some_iff.mp e).1; simpa using this
      rw [List.getElem?_replicate, if_pos hi] at e ⊢
      cases e
      exact ⟨none, rfl, trivial⟩
    | v hd tl ih =>
      intro i s e
      cases i with
      | zero => simp at e; subst e; exact ⟨_, rfl, _, rfl, hd⟩
      | succ i =>
        simp at e ⊢
        exact ih (by
          intro i s e
          exact noown (i + 1) s (by simpa using e)) i s (by simpa using e)
    | src tl ih =>
      intro i s e
      cases i with
      | zero => simp at e; subst e; exact ⟨_, rfl, rfl⟩
      | succ i =>
        simp at e ⊢
        exact ih (by
          intro i s e
          exact noown (i + 1) s (by simpa using e)) i s (by simpa using e)
  · rw [noown i s e1] at e2; cases e2
theorem RR.ghost {K : PySem.W.Frag} {g g' : G} {F : Addr → Prop} {H H' : Hp} {r : R} {x : V} (hA : g'.A = g.A) (ho : isOut r = true) (h : RR K g F H H' r x) : RR K g' F H H' r x := by
  cases r with
  | v d => exact h
  | fr xs => exact h
  | src => exact (show x = _ from h).trans (by rw [hA])
  | _ => cases ho
/-- a def by its checked body -/
theorem callOk_of {P : Program} {w : World} {K : PySem.W.Frag} {mg : Str → Option Value} {base : Heap} {k : Nat} {x : Str} {f : Addr} {name qual : Str} {params : Arguments} {body : List Stmt} {scope : Scope} {dV kV doc pm cdv ct oc : Value} {an od : Option Addr}
    {osl : Array (Option Value)} {N ps : List Str} {cs : List CS} {np : Nat} (lk : K.lookup f = some ⟨oc, od, .func (PySem.W.fnOf name qual params body scope dV kV doc pm an cdv ct), osl⟩) (hcd : PySem.W.codeIn K cdv qual = true) (S : FnScope N ps scope)
    (hx : mg x = some (.ref f)) (hk : PySem.W.keepIn K (.ref f) = true) (hb : Binds K (PySem.W.fnOf name qual params body scope dV kV doc pm an cdv ct) ps []) (hnp : np = ps.length) (blt : ∀ y ∈ bltNames, mg y = none)
    (C : ∀ p ∈ callsSs cs, ∃ i, i ≤ k ∧ CallOk P w K mg base i p.1 p.2) (B : ∀ p ∈ globsSs cs, GlobOk K mg p.1 p.2) (chk : chkSs scope N cs body = true) :
    CallOk P w K mg base (k + 1) x (runF np N.length cs) := by
  subst hnp
  refine ⟨f, _, ps, ps.length, fnG_of lk hcd S (fun vs H Q h => h.1) (fun A outer s H vs Q hr hg h => ?_), rfl, hx, hk, hb, fun as ss r e => ?_⟩
  · obtain ⟨hl, g, F, ss, as, r, ss', e, ho, hat, has, kq⟩ := h
    have G : GoodS (cxOf CX0 P w K mg base N qual scope f cdv A outer s H E0) k := { nd := S.nd, calm := rfl, room := hr, gu := hg, blt := blt, own := L2.passes_of rfl, fn := fun _ => rfl, kind := S.kind }
    refine ⟨_, exs_ok ⟨g.A, g.C, H, F⟩ G cs body C B chk, ?_⟩
    have hal : as.length = ps.length := has.length.trans hl
    unfold runF at e
    rw [if_pos hal] at e
    have rp := start_rp (n := N.length - ps.length) hat has
    have es : L2.start N vs = vs.map some ++ List.replicate (N.length - ps.length) none := by unfold L2.start; rw [hl]
    rw [es]
    cases q : exs cs (as.map AV.sv ++ List.replicate (N.length - ps.length) .un) ss with
    | none => rw [q] at e; cases e
    | some out =>
      rw [q] at e
      refine ⟨F, ss, _, out, q, rp, ?_⟩
      cases out with
      | nx sl1 s1 =>
        cases e
        exact fun σ' H' F' r1 _ _ => kq .non H' F' (r1.entry.ghost rfl rfl) r1.src .non
      | rt r1 s1 =>
        cases e
        exact fun z H' F' g1 s1 h1 => kq z H' F' (g1.ghost rfl rfl) s1 (RR.ghost (K := K) (g := ⟨g.A, g.C, H, F⟩) (g' := g) rfl ho h1)
  · unfold runF at e
    split at e
    · assumption
    · cases e
end Pm
namespace Pm
open PySem PySem.Spec PyProof.Rows L2
/-- whatever the ghost -/
theorem LS.all {X : Cx} {sts : List Stmt} {m : List SV → SS → Option Out} (h : ∀ g, PSs X sts (LS X.K g m)) : PSs X sts (fun D σ H => ∃ g, LS X.K g m D σ H) := ⟨fun pins s σ H D I q => by
  obtain ⟨g, q⟩ := q
  exact (h g).run pins s σ H D I q⟩
end Pm
namespace Pm
open PySem PySem.Spec PyProof.Rows L2
def srcN : List Str := ["script", "mixed", "cell"]
/-- the def that makes the source of draws -/
def chkSrc (sc : Scope) : List Stmt → Bool
  | [.Assign [.Name m1 _] (.Constant (.int _) _ _) _,
     .For (.Name c1 _) (.Name s1 _) [.Assign [.Name m2 _] (.BinOp (.Call (.Name it _) [.BinOp (.BinOp (.BinOp (.Name m3 _) mul1 (.Constant (.int k1) _ _) _) add1 (.BinOp (.Name c2 _) mul2 (.Constant (.int k2) _ _) _) _) add2 (.Constant (.int _) _ _) _] [] _) md (.Constant (.int k3) _ _) _) _] [] _,
     .Return (some (.Dict [some (.Constant (.str a) _ _), some (.Constant (.str b) _ _), some (.Constant (.str c) _ _), some (.Constant (.str d) _ _)]
       [.Subscript (.ListComp (.Call (.Name ab _) [.Name c3 _] [] _) [⟨.Name c4 _, .Name s2 _, [], as⟩] scope _) sl _, .Constant (.int l0) _ _, .Name m4 _, .Constant (.int t0) _ _] _)) _] =>
      ((m1 == "mixed") && (c1 == "cell") && (s1 == "script") && (m2 == "mixed") && (it == "int") && (m3 == "mixed") && (mul1 == .Mult) && (add1 == .Add)) && ((c2 == "cell") && (mul2 == .Mult) && (add2 == .Add) && (md == .Mod)) &&
      ((a == "cells") && (b == "left") && (c == "mixed") && (d == "turn") && (ab == "abs") && (c3 == "cell") && (c4 == "cell") && (s2 == "script")) && ((as == 0) && (m4 == "mixed") && revB sl && decide (0 ≤ l0) && decide (0 ≤ t0) &&
      decide (k1.natAbs < 1000000) && decide (k2.natAbs < 1000000) && decide (0 < k3)) &&
      (visB sc "script" && locB sc "mixed" && locB sc "cell" && gloB sc "int" && blkB srcN sc scope [("cell", 2)] && locB scope "cell" && gloB (relS scope sc) "abs" && visB (relS scope sc) "cell")
  | _ => false
/-- what it does -/
def spSrc (K : PySem.W.Frag) : SpG := fun vs H Q => ∃ (a : Addr) (ns : List Int), vs = [.ref a] ∧ SqL K H a (ns.map V.int) ∧ ns.length ≤ 1000 ∧ ∀ A C H' ss, (∀ b o, H b = some o → H' b = some o) → SrcOk A C ss H' → Q (.ref A) H'
theorem upd_upd {H : Hp} {a : Addr} {x y : HO} : L2.upd (L2.upd H a x) a y = L2.upd H a y := by
  funext b
  by_cases h : b = a
  · subst h; rw [upd_same, upd_same]
  · rw [upd_ne h, upd_ne h, upd_ne h]
theorem SqL.keepU {K : PySem.W.Frag} {H H' : Hp} {a : Addr} {xs : List V} (h : SqL K H a xs) (k : ∀ b o, H b = some o → H' b = some o) : SqL K H' a xs := by
  rcases h with (h | ⟨o, h⟩) | h
  · exact .inl (.inl (k _ _ h))
  · exact .inl (.inr ⟨o, k _ _ h⟩)
  · exact .inr h
theorem keepNew {H : Hp} {p : Addr} {x : HO} (hp : H p = none) : ∀ b o, H b = some o → L2.upd H p x b = some o := fun b o e => by rw [upd_ne (ne_of_none e hp)]; exact e
theorem revB_inv {e : Expr} (h : revB e = true) : ∃ k p1 p2 p3, e = .Slice none none (some (.UnaryOp .USub (.Constant (.int 1) k p1) p2)) p3 := by
  unfold revB at h
  split at h
  · exact ⟨_, _, _, _, rfl⟩
  · cases h
/-- the numbers' reading -/
def sRd (a : Addr) (m c : Int) : TE := fun σ H Q => σ[1]? = some (some (.int m)) ∧ σ[2]? = some (some (.int c)) ∧ ∀ i, Q (.int i) H
def absL (ns : List Int) : List Int := ns.map fun i => if i < 0 then -i else i
theorem src_walk {X : Cx} {j : Nat} (G : GoodS X j) (hN : X.N = srcN) {body : List Stmt} (h : chkSrc X.env.scope body = true) {H : Hp} {a : Addr} {ns : List Int} {Q : VK} (hs : SqL X.K H a (ns.map V.int)) (hl : ns.length ≤ 1000)
    (hQ : ∀ A C H' ss, (∀ b o, H b = some o → H' b = some o) → SrcOk A C ss H' → Q (.ref A) H') : ∃ t, PSs X body t ∧ t { nx := fun _ H' => Q .non H', rt := Q } [some (.ref a), none, none] H := by
  unfold chkSrc at h
  split at h
  case h_2 => cases h
  simp only [Bool.and_eq_true, decide_eq_true_eq] at h
  obtain ⟨⟨⟨⟨⟨⟨⟨⟨⟨⟨⟨a1, a2⟩, a3⟩, a4⟩, a5⟩, a6⟩, a7⟩, a8⟩, ⟨⟨b1, b2⟩, b3⟩, b4⟩, ⟨⟨⟨⟨⟨⟨c1, c2⟩, c3⟩, c4⟩, c5⟩, c6⟩, c7⟩, c8⟩, ⟨⟨⟨⟨⟨⟨d1, d2⟩, d3⟩, d4⟩, d5⟩, d6⟩, d7⟩, d8⟩, ⟨⟨⟨⟨⟨⟨e1, e2⟩, e3⟩, e4⟩, e5⟩, e6⟩, e7⟩, e8⟩ := h
  obtain rfl := eq_of_beq a1
  obtain rfl := eq_of_beq a2
  obtain rfl := eq_of_beq a3
  obtain rfl := eq_of_beq a4
  obtain rfl := eq_of_beq a5
  obtain rfl := eq_of_beq a6
  obtain rfl := eq_of_beq a7
  obtain rfl := eq_of_beq a8
  obtain rfl := eq_of_beq b1
  obtain rfl := eq_of_beq b2
  obtain rfl := eq_of_beq b3
  obtain rfl := eq_of_beq b4
  obtain rfl := eq_of_beq c1
  obtain rfl := eq_of_beq c2
  obtain rfl := eq_of_beq c3
  obtain rfl := eq_of_beq c4
  obtain rfl := eq_of_beq c5
  obtain rfl := eq_of_beq c6
  obtain rfl := eq_of_beq c7
  obtain rfl := eq_of_beq c8
  obtain rfl := eq_of_beq d1
  obtain rfl := eq_of_beq d2
  have n0 : X.N[0]? = some ("script" : Str) := by rw [hN]; rfl
  have n1 : X.N[1]? = some ("mixed" : Str) := by rw [hN]; rfl
  have n2 : X.N[2]? = some ("cell" : Str) := by rw [hN]; rfl
  have vS : ∀ {p}, PE X (.Name "script" p) (tVar 0) := fun {p} => pe_var n0 (vis_of e1) (by decide) (by decide)
  have vM : ∀ {p}, PE X (.Name "mixed" p) (tVar 1) := fun {p} => pe_var n1 (by rcases loc_of e2 with h | h; exact .inl h; exact .inr (.inl h)) (by decide) (by decide)
  have vC : ∀ {p}, PE X (.Name "cell" p) (tVar 2) := fun {p} => pe_var n2 (by rcases loc_of e3 with h | h; exact .inl h; exact .inr (.inl h)) (by decide) (by decide)
  have lM : Loc X.env.scope "mixed" := loc_of e2
  have lC : Loc X.env.scope "cell" := loc_of e3
  obtain ⟨kk, q1, q2, q3, rfl⟩ := revB_inv d3
  have vB : ∀ (scope : Scope) (hb : visB (relS scope X.env.scope) "cell" = true) (s : Shared) (H : Hp) (C : Addr) (cl : List (Str × Addr)) (fp : List Addr) {p : Pos}, PE (X.blk s H scope (compEnvC scope cl C X.env) fp) (.Name "cell" p) (tVar 2) := fun scope hb s H C cl fp {p} =>
    pe_var n2 (vis_of hb) (by decide) (by decide)
  refine ⟨_, pss_cons (ps_set G.nd n1 lM pe_int rfl (.inl (G.fn _))) (pss_cons (ps_for G.own G.calm (pi_list vS) (pg_name G.nd n2 lC (.inl (G.fn _)))
    (pss_one (ps_set G.nd n1 lM (pe_op op_mod (pe_callTy call_int1 (gl_of e4) (G.blt "int" (by decide +kernel)) boot_int (pa_cons (pe_op op_add (pe_op op_add (pe_op op_mul vM pe_int) (pe_op op_mul vC pe_int)) pe_int) pa_nil)) pe_int) rfl (.inl (G.fn _)))))
    (pss_one (ps_ret (pe_disp (pps_cons pe_str (pe_revL (pe_lc (own := [("cell", 2)]) (g := gName 2) G.calm G.nd (pi_list vS) (by rw [hN]; exact blk_ok e5)
        (fun s' H C' cl fp => pg_name G.nd n2 (st_of (X := X) (s := s') (H := H) (cenv := compEnvC _ cl C' X.env) (fp := fp) (sc := X.env.scope) (blk_ok e5).uniq rfl "cell" e6).1 (st_of (X := X) (s := s') (H := H) (cenv := compEnvC _ cl C' X.env) (fp := fp) (sc := X.env.scope) (blk_ok e5).uniq rfl "cell" e6).2)
        (fun s' H C' cl fp => pts_nil)
        (fun s' H C' cl fp => pe_callB call_abs (gl_of (X := X.blk s' H _ (compEnvC _ cl C' X.env) fp) e7) (G.blt "abs" (by decide +kernel)) boot_abs (pa_cons (vB _ e8 s' H C' cl fp) pa_nil)) (noset_fold rfl)))
      (pps_cons pe_str pe_int (pps_cons pe_str vM (pps_cons pe_str pe_int pps_nil)))) rfl rfl (fun z => by cases z) (by simp))))), ?_⟩
  have vlen : (ns.map V.int).length = ns.length := List.length_map ..
  -- the numbers
  refine ⟨_, rfl, a, rfl, ⟨_, hs⟩, ?_⟩
  refine for_list (xs := ns.map V.int) (fun _ σ' H' => H' = H ∧ ∃ (m : Int) (y : Option V), σ' = [some (.ref a), some (.int m), y]) ⟨rfl, _, none, rfl⟩ (fun i σ' H' _ h => h.1 ▸ hs) (fun i x σ' H' hx h => ?_) (fun σ' H' h => ?_)
  · obtain ⟨rfl, m, y, rfl⟩ := h
    obtain ⟨c, _, rfl⟩ : ∃ c, c ∈ ns ∧ x = V.int c := by
      have := List.mem_of_getElem? hx
      obtain ⟨c, h1, h2⟩ := List.mem_map.mp this
      exact ⟨c, h1, h2.symm⟩
    refine ⟨_, rfl, _, _, rfl, rfl, .inr ⟨by omega, by omega⟩, _, rfl, _, _, rfl, rfl, .inr ⟨by omega, by omega⟩, _, _, rfl, rfl, _, _, rfl, rfl, .inl ⟨_, rfl, _, _, rfl, rfl, d8, rfl, _, _, rfl⟩⟩
  obtain ⟨rfl, m, y, rfl⟩ := h
  -- the dict
  intro A hA
  have hs1 := SqL.keepU hs (keepNew (x := .dK []) hA)
  refine ⟨_, rfl, a, rfl, ⟨_, hs1⟩, fun B hB => ?_⟩
  have hAB : A ≠ B := fun z => by rw [← z, upd_same] at hB; cases hB
  have hsB : ∀ w, SqL X.K (L2.upd (L2.upd H' A (.dK [])) B w) a (ns.map V.int) := fun w => SqL.keepU hs1 (keepNew hB)
  refine ⟨fun i n H2 => n = ns.length - i ∧ i ≤ ns.length ∧ H2 = L2.upd (L2.upd H' A (.dK [])) B (.lst ((absL (ns.take i)).map V.int)), ⟨_, rfl, Nat.zero_le _, rfl⟩, ?_⟩
  rintro i n H2 ⟨rfl, hi, rfl⟩
  by_cases hlt : i < ns.length
  · refine .inr ⟨⟨_, V.int ns[i], hsB _, by simp [hlt]⟩, fun H3 => H3 = L2.upd (L2.upd H' A (.dK [])) B (.lst ((absL (ns.take (i + 1))).map V.int)), fun H3 z => ⟨_, by omega, rfl, hlt, z⟩, ?_⟩
    rintro x H3 ⟨rfl, hx⟩
    have hx := hx _ (hsB _)
    obtain rfl : x = V.int ns[i] := by simp [hlt] at hx; exact hx.symm
    refine ⟨rfl, ?_⟩
    simp only [tYes, if_true]
    refine ⟨_, rfl, _, rfl, _, upd_same, ?_, ?_⟩
    · rw [List.length_map]
      unfold absL
      rw [List.length_map, List.length_take, SL_eq]
      have : SL = 16777216 := rfl
      omega
    · rw [upd_upd]
      have e1 : (absL (ns.take (i + 1))).map V.int = (absL (ns.take i)).map V.int ++ [V.int (if ns[i] < 0 then -ns[i] else ns[i])] := by
        rw [List.take_succ_eq_append_getElem hlt]
        unfold absL
        rw [List.map_append, List.map_append]
        rfl
      rw [e1]
  · have ei : i = ns.length := by omega
    subst ei
    refine .inl ⟨⟨_, hsB _, by rw [vlen]; exact Nat.le_refl _⟩, ?_⟩
    rw [List.take_length]
    refine ⟨B, _, rfl, .of upd_same, fun C hC => ?_⟩
    have hCB : C ≠ B := fun z => by rw [z, upd_same] at hC; cases hC
    have hCA : C ≠ A := fun z => by rw [z, upd_ne hAB, upd_same] at hC; cases hC
    have hC' : H' C = none := by rw [upd_ne hCB, upd_ne hCA] at hC; exact hC
    have hB' : H' B = none := by rw [upd_ne (Ne.symm hAB)] at hB; exact hB
    refine ⟨_, rfl, ?_⟩
    refine ⟨by rw [upd_ne (Ne.symm hCA), upd_ne hAB, upd_same], [(.inr "cells", .ref C), (.inr "left", .int _), (.inr "mixed", .int m), (.inr "turn", .int _)], rfl, by simp, ?_⟩
    refine hQ A C _ ⟨absL ns, _, m, _⟩ (fun b o e => ?_) ⟨upd_same, ?_, ?_, d4, ?_, d5⟩
    · rw [upd_ne (ne_of_none e hA), upd_ne (ne_of_none e hC'), upd_ne (ne_of_none e hB'), upd_ne (ne_of_none e hA)]; exact e
    · rw [upd_ne hCA, upd_same, List.map_reverse]
    · intro c hc
      obtain ⟨z, _, rfl⟩ := List.mem_map.mp hc
      split <;> omega
    · unfold absL; rw [List.length_map]; exact hl
end Pm
namespace Pm
open PySem PySem.Spec PyProof.Rows L2
def SSok (ss : SS) : Prop := (∀ c ∈ ss.cells, 0 ≤ c) ∧ 0 ≤ ss.left ∧ ss.cells.length ≤ 1000 ∧ 0 ≤ ss.turn
/-- the law's rest says True whatever the source -/
def LawTrue (n i : Nat) (cs : List CS) : Prop := ∀ ss, SSok ss → ∃ s', exs cs ((List.replicate n SV.un).set i .src) ss = some (.rt (.v (.bool true)) s')
def spLaw (K : PySem.W.Frag) : SpG := fun vs H Q => ∃ (a : Addr) (ns : List Int), vs = [.ref a] ∧ SqL K H a (ns.map V.int) ∧ ns.length ≤ 1000 ∧ ∀ H', Q (.bl true) H'
def chkLaw (sc : Scope) (N : List Str) (i : Nat) (cs : List CS) : List Stmt → Bool
  | .Assign [.Name y _] (.Call (.Name f _) [.Name x _] [] _) _ :: rest => N[i]? == some y && locB sc y && (f == "_law_source") && gloB sc f && (x == "script") && N[0]? == some x && visB sc x && chkSs sc N cs rest
  | _ => false
section
variable {P : Program} {w : World} {K : PySem.W.Frag} {mg : Str → Option Value} {base : Heap} {f : Addr} {fd : FuncData} {params : Arguments} {body : List Stmt} {scope : Scope} {name qual : Str}
theorem src_fn (F : FunD K name qual params body scope [] [] f fd) (S : FnScope srcN ["script"] scope) (blt : ∀ y ∈ bltNames, mg y = none) (h : chkSrc scope body = true) : FnG P w K mg base 1 f fd ["script"] (spSrc K) := by
  obtain ⟨oc, od, dV, kV, doc, pm, an, cdv, ct, osl, rfl, lk, hcd, _, _⟩ := F.ex
  refine fnG_of (N := srcN) lk hcd S (fun vs H Q q => ?_) fun A outer s H vs Q hr hg q => ?_
  · obtain ⟨a, ns, rfl, _⟩ := q; rfl
  · obtain ⟨a, ns, rfl, hs, hl, hQ⟩ := q
    have G : GoodS (cxOf CX0 P w K mg base srcN qual scope f cdv A outer s H E0) 0 := { nd := S.nd, calm := rfl, room := hr, gu := hg, blt := blt, own := L2.passes_of rfl, fn := fun _ => rfl, kind := S.kind }
    exact src_walk G rfl h hs hl hQ
theorem law_fn {N : List Str} {i k : Nat} {cs : List CS} {fS : Addr} {fdS : FuncData} (F : FunD K name qual params body scope [] [] f fd) (S : FnScope N ["script"] scope) (blt : ∀ y ∈ bltNames, mg y = none)
    (FS : FnG P w K mg base 1 fS fdS ["script"] (spSrc K)) (bS : Binds K fdS ["script"] []) (kS : PySem.W.keepIn K (.ref fS) = true) (gS : mg "_law_source" = some (.ref fS)) (hk : 1 ≤ k)
    (C : ∀ p ∈ callsSs cs, ∃ i, i ≤ k ∧ CallOk P w K mg base i p.1 p.2) (B : ∀ p ∈ globsSs cs, GlobOk K mg p.1 p.2) (chk : chkLaw scope N i cs body = true) (hi : 1 ≤ i ∧ i < N.length) (T : LawTrue N.length i cs) :
    FnG P w K mg base (k + 1) f fd ["script"] (spLaw K) := by
  obtain ⟨oc, od, dV, kV, doc, pm, an, cdv, ct, osl, rfl, lk, hcd, _, _⟩ := F.ex
  refine fnG_of (N := N) lk hcd S (fun vs H Q q => ?_) fun A outer s H vs Q hr hg q => ?_
  · obtain ⟨a, ns, rfl, _⟩ := q; rfl
  · obtain ⟨a, ns, rfl, hs, hl, hQ⟩ := q
    have G : GoodS (cxOf CX0 P w K mg base N qual scope f cdv A outer s H E0) k := { nd := S.nd, calm := rfl, room := hr, gu := hg, blt := blt, own := L2.passes_of rfl, fn := fun _ => rfl, kind := S.kind }
    unfold chkLaw at chk
    split at chk
    case h_2 => cases chk
    simp only [Bool.and_eq_true] at chk
    obtain ⟨⟨⟨⟨⟨⟨⟨c1, c2⟩, c3⟩, c4⟩, c5⟩, c6⟩, c7⟩, c8⟩ := chk
    obtain rfl := eq_of_beq c3
    obtain rfl := eq_of_beq c5
    have es : L2.start N [V.ref a] = some (.ref a) :: List.replicate (N.length - 1) none := rfl
    let X := cxOf CX0 P w K mg base N qual scope f cdv A outer s H E0
    have call := fun (p q r : Pos) => pe_callG (X := X) (p := p) (pos := q) FS (G.toGood.room.mono hk) G.gu (gl_of (X := X) c4) gS kS bS (by decide) (pa_cons (pe_var (pos := r) (eq_of_beq c6) (vis_of c7) (by decide) (by decide)) pa_nil) rfl rfl
    refine ⟨_, pss_cons (ps_set G.nd (eq_of_beq c1) (loc_of c2) (call _ _ _) rfl (.inl rfl)) (LS.all fun g => exs_ok g G cs _ C B c8), ?_⟩
    refine ⟨_, rfl, a, ns, rfl, hs, hl, fun A' C' H' ss hkeep hsrc => ?_⟩
    refine ⟨⟨A', C', H', fun _ => False⟩, ?_⟩
    obtain ⟨s', e⟩ := T ss hsrc.2.2
    refine ⟨fun _ => False, ss, _, _, e, ⟨?_, fun j t ej => ?_, fun j l t u b hne ej el os ot => ?_, fun _ _ e _ _ => e, fun _ z => z.elim, fun _ z => z.elim, fun _ z => z, fun z => z, ⟨ss, hsrc⟩, hsrc⟩, fun x H2 F2 _ _ hx => ?_⟩
    · rw [es]; simp; omega
    · by_cases hj : i = j
      · subst hj
        rw [List.getElem?_set_self (by simpa using hi.2)] at ej
        cases ej
        exact ⟨_, List.getElem?_set_self (by rw [es]; simp; omega), rfl⟩
      · rw [List.getElem?_set_ne hj] at ej ⊢
        have hjl : j < N.length := by have := (List.getElem?_eq_some_iff.mp ej).1; simpa using this
        rw [List.getElem?_replicate, if_pos hjl] at ej
        cases ej
        exact ⟨_, List.getElem?_eq_getElem (by rw [es]; simp; omega), trivial⟩
    · have no : ∀ (j : Nat) (t : SV), ((List.replicate N.length SV.un).set i .src)[j]? = some t → t.ow = false := by
        intro j t e
        have hm := List.mem_of_getElem? e
        rcases List.mem_or_eq_of_mem_set hm with h | h
        · rw [(List.mem_replicate.mp h).2]; rfl
        · rw [h]; rfl
      rw [no j t ej] at os; cases os
    · cases hx
      exact hQ _
end
end Pm
namespace Pm
open PySem PySem.Spec PyProof.Rows L2
/-- the law is called: only the script may be tracked -/
theorem call_at {P : Program} {w : World} {K : PySem.W.Frag} {mg mb : Str → Option Value} {k : Nat} {fl sc : Addr} {fd : FuncData} {t : Shared} {us : List Value} {ns : List Int} {H : Hp}
    (inK : K.In t.heap) (nsG : t.heap.Ns mainGlobals mg) (nsB : t.heap.Ns builtinsNs mb) (boot : ∀ y : Str, y ≠ "__name__" → mb y = bootBuiltins y) (lim : t.heap.NoLimit) (gens : t.gens = #[])
    (obj : t.heap.get? sc = some { cls := .type "list", data := .seq us.toArray }) (room : Room k callerA)
    (F : ∀ base : Heap, K.In base → base.Ns mainGlobals mg → FnG P w K mg base k fl fd ["script"] (spLaw K)) (bind : ∀ (s : Shared) (u : Value), BindsTo s fd ⟨[u], []⟩ [("script", u)])
    (only : ∀ b, H b = none ∨ ∃ o xs, H b = some (.frz o (.lst xs))) (sq : SqL K H sc (ns.map V.int)) (hl : ns.length ≤ 1000) (hok : HOk P w H t.heap) (one : ∀ b, H b ≠ none → b = sc) (out : H sc ≠ none → K.lookup sc = none) :
    codeAny (model P w) callerA (.call (.ref fl) ⟨[.ref sc], []⟩) (fun r t' => r = .ok (.ret (.bool true)) ∧ OldK t.heap t'.heap ∧ t'.os = t.os ∧ AllBare t'.gens) t := by
  have plain : ∀ {b : Addr} {o : Obj}, t.heap.get? b = some o → (∀ n, o.data ≠ .seq us.toArray n) → (hidT t.heap H).get? b = some o := by
    intro b o e d
    cases q : H b with
    | none => exact hidT_get e q
    | some v =>
      obtain rfl := one b (by rw [q]; exact fun z => by cases z)
      rw [obj] at e
      cases e
      exact absurd rfl (d _)
  have nsOf : ∀ {b : Addr} {m : Str → Option Value}, t.heap.Ns b m → (hidT t.heap H).Ns b m := by
    rintro b m ⟨o, es, ep, e, d, r⟩
    exact ⟨o, es, ep, plain e (fun n z => by rw [d] at z; cases z), d, r⟩
  have inB : K.In (hidT t.heap H) := by
    intro b o e
    cases q : H b with
    | none => exact hidT_get (inK b o e) q
    | some v =>
      obtain rfl := one b (by rw [q]; exact fun z => by cases z)
      have := out (by rw [q]; exact fun z => by cases z)
      rw [this] at e; cases e
  obtain ⟨ml, l1, l2⟩ := lim
  have env : Env0 P w K mg (hidT t.heap H) callerA [] t H := {
    frames := rfl
    mod := ⟨inB, nsOf nsG, ⟨mb, nsOf nsB, boot⟩, ⟨ml, nsOf l1, l2⟩⟩
    bs := fun b o e => of_hidT e
    bsz := Nat.le_of_eq (hidT_size _ _)
    funs := trivial
    frf := fun b z => by cases z
    hok := hok
    bare := .of_eq gens }
  have run := (F _ inB (nsOf nsG)).run callerA [] t H ⟨[.ref sc], []⟩ [.ref sc] [.ref sc] (fun v _ => v = .bl true) room rfl env (bind t (.ref sc)) (.cons rfl .nil) ⟨sc, ns, rfl, sq, hl, fun _ => rfl⟩
  refine codeAny_mono run fun r t' hr => ?_
  cases r with
  | error e => exact False.elim hr
  | ok fl =>
    cases fl with
    | ret u =>
      obtain ⟨v, H', os, bare, un, hok', rel, hv⟩ := hr
      have hv : v = .bl true := hv
      subst hv
      obtain rfl : u = Value.bool true := rel
      refine ⟨rfl, OldK.of_keep fun b o e => ?_, os, bare⟩
      rcases only b with q | ⟨ob, xs, q⟩
      · exact un.keep b o e q (fun z => by cases z) (fun z => by cases z)
      · obtain ⟨o1, _⟩ := hok b _ q
        obtain ⟨o2, _⟩ := hok' b _ (un.frzs b ob _ q)
        rw [e] at o1
        cases o1
        exact o2
    | _ => exact False.elim hr
theorem call_law {P : Program} {w : World} {K : PySem.W.Frag} {mg mb : Str → Option Value} {k : Nat} {fl sc : Addr} {fd : FuncData} {t : Shared} {us : List Value} {ns : List Int}
    (inK : K.In t.heap) (nsG : t.heap.Ns mainGlobals mg) (nsB : t.heap.Ns builtinsNs mb) (boot : ∀ y : Str, y ≠ "__name__" → mb y = bootBuiltins y) (lim : t.heap.NoLimit) (gens : t.gens = #[])
    (obj : t.heap.get? sc = some { cls := .type "list", data := .seq us.toArray }) (hints : IntsAre us ns) (hl : ns.length ≤ 1000) (room : Room k callerA)
    (F : ∀ base : Heap, K.In base → base.Ns mainGlobals mg → FnG P w K mg base k fl fd ["script"] (spLaw K)) (bind : ∀ (s : Shared) (u : Value), BindsTo s fd ⟨[u], []⟩ [("script", u)]) :
    codeAny (model P w) callerA (.call (.ref fl) ⟨[.ref sc], []⟩) (fun r t' => r = .ok (.ret (.bool true)) ∧ OldK t.heap t'.heap ∧ t'.os = t.os ∧ AllBare t'.gens) t := by
  have rel := vals_ints hints
  have len := hints.length
  have big : ns.length ≤ sizeLine := by rw [SL_eq]; have : SL = 16777216 := rfl; omega
  cases q : K.lookup sc with
  | some o =>
    have e := inK sc o q
    rw [obj] at e
    cases e
    exact call_at (H := fun _ => none) inK nsG nsB boot lim gens obj room F bind (fun _ => .inl rfl) (.inr ⟨_, us.toArray, _, q, rfl, rfl, rfl, by rw [List.size_toArray, len]; exact big, by simpa using rel⟩) hl (fun b v z => by cases z) (fun b z => absurd rfl z) (fun z => absurd rfl z)
  | none =>
    let O : HO := .frz { cls := .type "list", data := .seq us.toArray } (.lst (ns.map V.int))
    have same : (L2.upd (fun _ => none) sc O) sc = some O := upd_same
    have other : ∀ b, b ≠ sc → (L2.upd (fun _ => none) sc O) b = none := fun b hb => upd_ne hb
    refine call_at (H := L2.upd (fun _ => none) sc O) inK nsG nsB boot lim gens obj room F bind (fun b => ?_) (.inl (.inr ⟨_, same⟩)) hl (fun b v z => ?_) (fun b z => ?_) (fun _ => q)
    · by_cases hb : b = sc
      · subst hb; exact .inr ⟨_, _, same⟩
      · exact .inl (other b hb)
    · by_cases hb : b = sc
      · subst hb
        rw [same] at z
        cases z
        exact ⟨obj, by rw [List.length_map]; exact big, us, _, rel, obj⟩
      · rw [other b hb] at z; cases z
    · by_cases hb : b = sc
      · exact hb
      · exact absurd (other b hb) z
/-- the end over a head by facts -/
theorem walkG {l : PySem.W.OpenLaw} {n k : Nat} {q : Program} {loose : List Str} {XP : (Str → Option Value) → Heap → Prop} {YP : World → Heap → Prop} {d : DefRec} (hn : l.most = some n) (hn2 : n ≤ 1000) (hdf : d.params.defaults = []) (room : Room k callerA)
    (F : ∀ (w : World) (mg : Str → Option Value) (fl : Addr) (h : Heap), YP w h → h.Ns mainGlobals mg → mg d.name = some (.ref fl) →
      ∃ (K : PySem.W.Frag) (fd : FuncData), K.In h ∧ (∀ (s : Shared) (u : Value), BindsTo s fd ⟨[u], []⟩ [("script", u)]) ∧ ∀ base : Heap, K.In base → base.Ns mainGlobals mg → FnG l.prog w K mg base k fl fd ["script"] (spLaw K)) :
    PySem.W.WalkO q loose XP YP l.row.toRowW d [] (fun f vs => PySem.call f vs) := by
  refine Att.attach_call hn hdf fun w s₀ t mg mb fl o pm cd doc sc us ns G Y ho hd hcd named obj hints short gens => ?_
  obtain ⟨K, fd, inK, bind, ok⟩ := F w mg fl _ Y G.T.g named
  exact call_law inK G.T.g G.T.b G.T.builtins G.T.nolimit gens obj hints (Nat.le_trans short hn2) room ok bind
end Pm
namespace Pm
open PySem PySem.Spec PyProof.Rows L2
/-- the defs that a text calls -/
structure AllC (P : Program) (w : World) (K : PySem.W.Frag) (mg : Str → Option Value) (base : Heap) (k : Nat) (l : List (Str × Fn)) : Prop where
  get : ∀ p ∈ l, ∃ i, i ≤ k ∧ CallOk P w K mg base i p.1 p.2
structure AllG (K : PySem.W.Frag) (mg : Str → Option Value) (l : List (Str × D)) : Prop where
  get : ∀ p ∈ l, GlobOk K mg p.1 p.2
section
variable {P : Program} {w : World} {K : PySem.W.Frag} {mg : Str → Option Value} {base : Heap} {k i : Nat} {l : List (Str × Fn)} {x : Str} {f : Fn}
theorem AllC.nil : AllC P w K mg base k [] := ⟨fun _ h => by cases h⟩
theorem AllC.cons (hi : i ≤ k) (o : CallOk P w K mg base i x f) (r : AllC P w K mg base k l) : AllC P w K mg base k ((x, f) :: l) := ⟨fun p hp => by
  rcases List.mem_cons.mp hp with rfl | hp
  · exact ⟨i, hi, o⟩
  · exact r.get p hp⟩
theorem AllG.nil : AllG K mg [] := ⟨fun _ h => by cases h⟩
theorem AllG.cons {d : D} {l : List (Str × D)} (o : GlobOk K mg x d) (r : AllG K mg l) : AllG K mg ((x, d) :: l) := ⟨fun p hp => by
  rcases List.mem_cons.mp hp with rfl | hp
  · exact o
  · exact r.get p hp⟩
theorem callOk_of' {fl : Addr} {fd : FuncData} {name qual : Str} {params : Arguments} {body : List Stmt} {scope : Scope} {N ps : List Str} {cs : List CS} {np : Nat} (F : FunD K name qual params body scope [] [] fl fd) (S : FnScope N ps scope)
    (hx : mg x = some (.ref fl)) (hb : Binds K fd ps []) (hnp : np = ps.length) (blt : ∀ y ∈ bltNames, mg y = none)
    (C : ∀ p ∈ callsSs cs, ∃ i, i ≤ k ∧ CallOk P w K mg base i p.1 p.2) (B : ∀ p ∈ globsSs cs, GlobOk K mg p.1 p.2) (chk : chkSs scope N cs body = true) :
    CallOk P w K mg base (k + 1) x (runF np N.length cs) := by
  obtain ⟨oc, od, dV, kV, doc, pm, an, cdv, ct, osl, rfl, lk, hcd, _, _⟩ := F.ex
  exact callOk_of lk hcd S hx F.kp hb hnp blt C B chk
end
end Pm
/-! running core terms on values that are not known -/
namespace Pm
open PySem
def B_pick : List CS := [.whl (.and (.cmp .gt (.loc 1) (.lit (.int 1))) (.and (.cmp .lt (.sget .left 0) (.lit (.int 2))) (.cmp .gt (.slen 0) (.lit (.int 0))))) [.spop 0], .set 2 (.sget .left 0), .ite (.or (.cmp .lt (.loc 1) (.lit (.int 2))) (.cmp .gt (.loc 2) (.lit (.int 1)))) [.sput .left 0 (.bin .fdiv (.loc 2) (.bi .max2 [(.lit (.int 1)), (.loc 1)])), .ret (.bin .mod (.bi .int [(.loc 2)]) (.bi .max2 [(.lit (.int 1)), (.loc 1)]))] [], .sput .turn 0 (.bin .add (.sget .turn 0) (.lit (.int 1))), .set 3 (.bin .mod (.bi .int [(.bin .add (.sget .mixed 0) (.bin .mul (.sget .turn 0) (.lit (.int 104729))))]) (.lit (.int 998244353))), .set 3 (.bin .mod (.bi .int [(.bin .add (.bin .mul (.loc 3) (.loc 3)) (.bin .mul (.sget .turn 0) (.lit (.int 17))))]) (.lit (.int 2147483647))), .sput .mixed 0 (.loc 3), .ret (.bin .mod (.bi .int [(.bin .fdiv (.loc 3) (.lit (.int 16)))]) (.loc 1))]
def F_pick : Fn := runF 2 4 B_pick
/-! ### one step -/
theorem exs_nil (sl : List SV) (ss : SS) : exs [] sl ss = some (.nx sl ss) := rfl
theorem exs_cons (c : CS) (cs : List CS) (sl : List SV) (ss : SS) : exs (c :: cs) sl ss = match ex c sl ss with
    | some (.nx sl ss) => exs cs sl ss
    | r => r := rfl
theorem exs_nx {c : CS} {cs : List CS} {sl sl' : List SV} {ss ss' : SS} (h : ex c sl ss = some (.nx sl' ss')) : exs (c :: cs) sl ss = exs cs sl' ss' := by rw [exs_cons, h]
theorem exs_rt {c : CS} {cs : List CS} {sl : List SV} {ss ss' : SS} {r : R} (h : ex c sl ss = some (.rt r ss')) : exs (c :: cs) sl ss = some (.rt r ss') := by rw [exs_cons, h]
def outF : Option Out → Option (R × SS)
  | some (.rt r ss) => some (r, ss)
  | some (.nx _ ss) => some (.v .none, ss)
  | none => none
theorem runF_eq {np N : Nat} {body : List CS} {args : List AV} {ss : SS} (h : args.length = np) : runF np N body args ss = outF (exs body (args.map AV.sv ++ List.replicate (N - np) .un) ss) := by
  unfold runF
  rw [if_pos h]
  cases exs body (args.map AV.sv ++ List.replicate (N - np) .un) ss with
  | none => rfl
  | some o => cases o <;> rfl
def pickC : CE := .and (.cmp .gt (.loc 1) (.lit (.int 1))) (.and (.cmp .lt (.sget .left 0) (.lit (.int 2))) (.cmp .gt (.slen 0) (.lit (.int 0))))
def pickS (many : Int) : List SV := [.src, .v (.int many), .un, .un]
theorem pick_c (many : Int) (ss : SS) : toB (ev pickC (pickS many) ss) = some (decide (1 < many) && (decide (ss.left < 2) && decide (0 < ss.cells.length)), ss) := by
  simp only [pickC, ev, toD, toB, O.f, cmpD, ordD, getR, pickS, slR, isSrc, List.getElem?_cons_zero, List.getElem?_cons_succ, Option.bind_some, Option.map_some, rd, asB, bl, SS.get]
  by_cases h1 : 1 < many <;> by_cases h2 : ss.left < 2 <;> by_cases h3 : 0 < ss.cells.length <;> simp [h1, h2, h3, asB]
theorem pick_w (many : Int) : ∀ (n : Nat) (ss : SS), SSok ss → ss.cells.length < n → ∃ ss', whD (fun sl ss => toB (ev pickC sl ss)) (fun sl ss => exs [.spop 0] sl ss) n (pickS many) ss = some (.nx (pickS many) ss') ∧ SSok ss'
  | 0, ss, ok, h => by omega
  | n + 1, ss, ok, h => by
    unfold whD
    rw [pick_c]
    simp only [Option.bind_some]
    cases hb : (decide (1 < many) && (decide (ss.left < 2) && decide (0 < ss.cells.length))) with
    | false => exact ⟨ss, rfl, ok⟩
    | true =>
      simp only [Bool.and_eq_true, decide_eq_true_eq] at hb
      obtain ⟨cells, left, mixed, turn⟩ := ss
      obtain ⟨o1, o2, o3, o4⟩ := ok
      cases cells with
      | nil => simp at hb
      | cons c cs =>
        have : exs [.spop 0] (pickS many) ⟨c :: cs, left, mixed, turn⟩ = some (.nx (pickS many) ⟨cs, c, mixed, turn⟩) := rfl
        rw [if_pos rfl, this]
        exact pick_w many n _ ⟨fun x hx => o1 x (List.mem_cons_of_mem _ hx), o1 c List.mem_cons_self, by simp at o3; show cs.length ≤ 1000; omega, o4⟩ (by simp at h; show cs.length < n; omega)
theorem log_small {i : Int} (h : i.natAbs < 18446744073709551616) : i.natAbs.log2 < 9000 := by
  by_cases hz : i.natAbs = 0
  · rw [hz]; decide
  · have := (Nat.log2_lt hz).mpr (show i.natAbs < 2 ^ 64 by omega)
    omega
theorem pick_ok (many : Int) (h : many < 18446744073709551616) (ss : SS) (ok : SSok ss) : ∃ r ss', F_pick [.src, .v (.int many)] ss = some (.v (.int r), ss') ∧ SSok ss' ∧ 0 ≤ r ∧ r < max 1 many := by
  obtain ⟨s1, e1, ok⟩ := pick_w many FUEL ss ok (by have := ok.2.2.1; show _ < 100000; omega)
  have ew : ex (.whl pickC [.spop 0]) (pickS many) ss = some (.nx (pickS many) s1) := e1
  obtain ⟨cells, left, mixed, turn⟩ := s1
  obtain ⟨o1, o2, o3, o4⟩ := ok
  simp only at o1 o2 o3 o4
  have key : F_pick [.src, .v (.int many)] ss = outF (exs B_pick.tail (pickS many) ⟨cells, left, mixed, turn⟩) := by
    refine (runF_eq (np := 2) (N := 4) (body := B_pick) (args := [.src, .v (.int many)]) rfl).trans ?_
    show outF (exs (.whl pickC [.spop 0] :: B_pick.tail) (pickS many) ss) = _
    rw [exs_nx ew]
  rw [key]
  have hmax : (if many > 1 then many else 1) = max 1 many := by
    by_cases q : 1 < many
    · rw [if_pos q]; omega
    · rw [if_neg q]; omega
  by_cases hc : many < 2 ∨ 1 < left
  · have hl : (max 1 many).natAbs < 18446744073709551616 := by omega
    have q1 : (0 : Int) < max 1 many := by omega
    have q2 := Int.ediv_nonneg o2 (Int.le_of_lt q1)
    refine ⟨left % max 1 many, ⟨cells, left / max 1 many, mixed, turn⟩, ?_, ⟨o1, q2, o3, o4⟩, Int.emod_nonneg _ (by omega), Int.emod_lt_of_pos _ q1⟩
    rcases hc with hc | hc
    · simp [B_pick, exs, ex, ev, evs, toD, toB, toDs, O.f, cmpD, ordD, getR, pickS, slR, isSrc, rd, rds, asB, bl, SS.get, toSet, toS, setS, hc, sputD, SS.put, binD, fdivD, modD, biD, max2D, intD, hmax, log_small hl, q1, q2, retR, outF]
    · simp [B_pick, exs, ex, ev, evs, toD, toB, toDs, O.f, cmpD, ordD, getR, pickS, slR, isSrc, rd, rds, asB, bl, SS.get, toSet, toS, setS, hc, sputD, SS.put, binD, fdivD, modD, biD, max2D, intD, hmax, log_small hl, q1, q2, retR, outF]
  · rw [not_or] at hc
    obtain ⟨c1, c2⟩ := hc
    have e0 : max 1 many = many := by omega
    rw [e0]
    have q1 : (0 : Int) < many := by omega
    have b1 := Int.emod_nonneg (mixed + (turn + 1) * 104729) (b := 998244353) (by decide)
    have b2 := Int.emod_lt_of_pos (mixed + (turn + 1) * 104729) (b := 998244353) (by decide)
    refine ⟨(((mixed + (turn + 1) * 104729) % 998244353 * ((mixed + (turn + 1) * 104729) % 998244353) + (turn + 1) * 17) % 2147483647 / 16) % many, ⟨cells, left, ((mixed + (turn + 1) * 104729) % 998244353 * ((mixed + (turn + 1) * 104729) % 998244353) + (turn + 1) * 17) % 2147483647, turn + 1⟩, ?_, ⟨o1, o2, o3, by show 0 ≤ turn + 1; omega⟩, Int.emod_nonneg _ (by omega), Int.emod_lt_of_pos _ q1⟩
    have a1 : (104729 : Int).natAbs < 18446744073709551616 := by decide
    have a2 : (17 : Int).natAbs < 18446744073709551616 := by decide
    have a3 : ((mixed + (turn + 1) * 104729) % 998244353).natAbs < 18446744073709551616 := by omega
    have a4 : (0 : Int) ≤ turn + 1 := by omega
    have a5 : Nat.log2 16 < 9000 := by decide +kernel
    simp [B_pick, exs, ex, ev, evs, toD, toB, toDs, O.f, cmpD, ordD, getR, pickS, slR, isSrc, rd, rds, asB, bl, SS.get, toSet, toS, setS, c1, c2, sputD, SS.put, binD, fdivD, modD, mulD, addD, biD, max2D, intD, q1, retR, outF, a1, a2, a3, a4, a5]
end Pm
/-! lists of iL; comprehensions; fors -/
namespace Pm
open PySem
def iL (l : List Int) : List D := l.map .int
theorem iL_len (l : List Int) : (iL l).length = l.length := by simp [iL]
theorem iL_nil : iL [] = [] := rfl
theorem iL_cons (i : Int) (l : List Int) : iL (i :: l) = .int i :: iL l := rfl
theorem iL_app (a b : List Int) : iL (a ++ b) = iL a ++ iL b := by simp [iL]
theorem iL_get (l : List Int) (k : Nat) : (iL l)[k]? = l[k]?.map .int := by simp [iL]
theorem canLay_ints : ∀ l : List Int, PyData.canLayAll0 (iL l) = true
  | [] => by simp [PyData.canLayAll0, iL]
  | i :: l => by simp only [iL, List.map_cons, PyData.canLayAll0, PyData.canLay0, Bool.true_and]; exact canLay_ints l
theorem depthAll_ints : ∀ is : List Int, PyData.depthAll (iL is) = 0
  | [] => by simp [PyData.depthAll, iL]
  | i :: is => by
    have := depthAll_ints is
    simp only [iL] at this
    simp [iL, PyData.depthAll, PyData.depth, this]
theorem shaped_lst (l : List Int) : SeqAt.shaped (.list (iL l)) = true := by
  unfold SeqAt.shaped
  rw [PyData.canLay0, canLay_ints, PyData.depth, depthAll_ints]
  rfl
theorem shaped_tup (l : List Int) : SeqAt.shaped (.tuple (iL l)) = true := by
  unfold SeqAt.shaped
  rw [PyData.canLay0, canLay_ints, PyData.depth, depthAll_ints]
  rfl
theorem shaped_int' (i : Int) : SeqAt.shaped (.int i) = true := rfl
theorem eqvAll_ints : ∀ a b : List Int, PyData.eqvAll (iL a) (iL b) = decide (a = b)
  | [], [] => by simp [PyData.eqvAll, iL]
  | [], _ :: _ => by simp [PyData.eqvAll, iL]
  | _ :: _, [] => by simp [PyData.eqvAll, iL]
  | x :: a, y :: b => by
    have := eqvAll_ints a b
    simp only [iL] at this
    simp only [iL, List.map_cons, PyData.eqvAll, this, PyData.eqv]
    by_cases h : x = y <;> by_cases h2 : a = b <;> simp [h, h2]
theorem eq_lst (a b : List Int) : eqD (.list (iL a)) (.list (iL b)) = some (decide (a = b)) := by
  unfold eqD
  simp only
  rw [if_pos ⟨shaped_lst a, shaped_lst b⟩, PyData.eqv, eqvAll_ints]
theorem eq_lst0 (a : List Int) : eqD (.list (iL a)) (.list []) = some (decide (a = [])) := eq_lst a []
theorem eq_tup (a b : List Int) : eqD (.tuple (iL a)) (.tuple (iL b)) = some (decide (a = b)) := by
  unfold eqD
  simp only
  rw [if_pos ⟨shaped_tup a, shaped_tup b⟩, PyData.eqv, eqvAll_ints]
theorem eq_int (a b : Int) : eqD (.int a) (.int b) = some (a == b) := rfl
theorem eq_str (a b : Str) : eqD (.str a) (.str b) = some (a == b) := rfl
theorem in_lst (x : Int) (l : List Int) : inD (.int x) (.list (iL l)) = some (decide (x ∈ l)) := by
  unfold inD
  simp only
  rw [if_pos ⟨rfl, shaped_lst l⟩]
  congr 1
  induction l with
  | nil => simp [iL]
  | cons y l ih =>
    simp only [iL] at ih
    simp only [iL]
    rw [List.map_cons, List.any_cons, ih, PyData.eqv]
    by_cases h : y = x
    · subst h; simp
    · have h' : ¬ x = y := fun e => h e.symm
      by_cases h2 : x ∈ l <;> simp [h, h', h2]
theorem range_ints (n : Nat) : rangeD 0 (n : Int) = iL ((List.range n).map fun (k : Nat) => (k : Int)) := by
  unfold rangeD iL
  rw [List.map_map, show ((n : Int) - 0).toNat = n by omega]
  refine List.map_congr_left fun k _ => ?_
  simp
/-! ### the arms, one by one -/
theorem e_lit (d : D) (sl : List SV) (ss : SS) : ev (.lit d) sl ss = (some (.v d, ss)) := (rfl)
theorem e_glo (u0 : Str) (d : D) (sl : List SV) (ss : SS) : ev (.glo u0 d) sl ss = (some (.v d, ss)) := (rfl)
theorem e_loc (i : Nat) (sl : List SV) (ss : SS) : ev (.loc i) sl ss = ((getR sl i).map fun r => (r, ss)) := (rfl)
theorem e_bin (o : BOp) (a : CE) (b : CE) (sl : List SV) (ss : SS) : ev (.bin o a b) sl ss = ((toD (ev a sl ss)).bind fun p => (toD (ev b sl p.2)).bind fun q => (binD o p.1 q.1).map fun r => (r, q.2)) := (rfl)
theorem e_neg (a : CE) (sl : List SV) (ss : SS) : ev (.neg a) sl ss = ((toD (ev a sl ss)).f negD) := (rfl)
theorem e_not (a : CE) (sl : List SV) (ss : SS) : ev (.not a) sl ss = ((toB (ev a sl ss)).bind fun p => some (bl (!p.1), p.2)) := (rfl)
theorem e_and (a : CE) (b : CE) (sl : List SV) (ss : SS) : ev (.and a b) sl ss = ((toB (ev a sl ss)).bind fun p => if p.1 then (toB (ev b sl p.2)).bind fun q => some (bl q.1, q.2) else some (bl false, p.2)) := (rfl)
theorem e_or (a : CE) (b : CE) (sl : List SV) (ss : SS) : ev (.or a b) sl ss = ((toB (ev a sl ss)).bind fun p => if p.1 then some (bl true, p.2) else (toB (ev b sl p.2)).bind fun q => some (bl q.1, q.2)) := (rfl)
theorem e_cmp (o : COp) (a : CE) (b : CE) (sl : List SV) (ss : SS) : ev (.cmp o a b) sl ss = ((toD (ev a sl ss)).bind fun p => (toD (ev b sl p.2)).bind fun q => (cmpD o p.1 q.1).map fun r => (bl r, q.2)) := (rfl)
theorem e_cmp2 (o : COp) (o' : COp) (a : CE) (b : CE) (c : CE) (sl : List SV) (ss : SS) : ev (.cmp2 o o' a b c) sl ss = ((toD (ev a sl ss)).bind fun p => (toD (ev b sl p.2)).bind fun q => (cmpD o p.1 q.1).bind fun r => if r then (toD (ev c sl q.2)).bind fun t => (cmpD o' q.1 t.1).map fun r => (bl r, t.2) else some (bl false, q.2)) := (rfl)
theorem e_ife (c : CE) (a : CE) (b : CE) (sl : List SV) (ss : SS) : ev (.ife c a b) sl ss = ((toB (ev c sl ss)).bind fun p => if p.1 then ev a sl p.2 else ev b sl p.2) := (rfl)
theorem e_tup (es : List CE) (sl : List SV) (ss : SS) : ev (.tup es) sl ss = ((toX (evs es sl ss)).bind fun p => some (.v (.tuple p.1), p.2)) := (rfl)
theorem e_lst (es : List CE) (sl : List SV) (ss : SS) : ev (.lst es) sl ss = ((toX (evs es sl ss)).bind fun p => some (.fr p.1, p.2)) := (rfl)
theorem e_idx (a : CE) (i : CE) (sl : List SV) (ss : SS) : ev (.idx a i) sl ss = ((toD (ev a sl ss)).bind fun p => (toD (ev i sl p.2)).bind fun q => (idxD p.1 q.1).map fun d => (.v d, q.2)) := (rfl)
theorem e_sli (a : CE) (lo : CE) (hi : CE) (sl : List SV) (ss : SS) : ev (.sli a lo hi) sl ss = ((toD (ev a sl ss)).bind fun p => (toP lo (ev lo sl p.2)).bind fun q => (toP hi (ev hi sl q.2)).bind fun t => (sliD p.1 q.1 t.1).map fun r => (r, t.2)) := (rfl)
theorem e_nop  (sl : List SV) (ss : SS) : ev .nop sl ss = (some (.v .none, ss)) := (rfl)
theorem e_rev (a : CE) (sl : List SV) (ss : SS) : ev (.rev a) sl ss = ((toD (ev a sl ss)).f revD) := (rfl)
theorem e_bi (f : Bi) (es : List CE) (sl : List SV) (ss : SS) : ev (.bi f es) sl ss = ((toDs (evs es sl ss)).f (biD f)) := (rfl)
theorem e_met (m : Me) (o : CE) (es : List CE) (sl : List SV) (ss : SS) : ev (.met m o es) sl ss = ((toD (ev o sl ss)).bind fun p => (toDs (evs es sl p.2)).bind fun q => (meD m p.1 q.1).map fun r => (r, q.2)) := (rfl)
theorem e_call (u0 : Str) (f : Fn) (es : List CE) (sl : List SV) (ss : SS) : ev (.call u0 f es) sl ss = ((evs es sl ss).bind fun p => callD f p.1 p.2) := (rfl)
theorem e_newk  (sl : List SV) (ss : SS) : ev .newk sl ss = (some (.nk [], ss)) := (rfl)
theorem e_newt  (sl : List SV) (ss : SS) : ev .newt sl ss = (some (.nt [], ss)) := (rfl)
theorem e_dhas (b : Bool) (k : CE) (i : Nat) (sl : List SV) (ss : SS) : ev (.dhas b k i) sl ss = ((toD (ev k sl ss)).f (dhasD b sl i)) := (rfl)
theorem e_dget (i : Nat) (k : CE) (sl : List SV) (ss : SS) : ev (.dget i k) sl ss = ((toD (ev k sl ss)).f (dgetD sl i)) := (rfl)
theorem e_dget2 (i : Nat) (k : CE) (d : CE) (sl : List SV) (ss : SS) : ev (.dget2 i k d) sl ss = ((toD (ev k sl ss)).bind fun p => (toE (ev d sl p.2)).bind fun q => (dget2D sl i p.1 q.1).map fun r => (r, q.2)) := (rfl)
theorem e_star (e : CE) (sl : List SV) (ss : SS) : ev (.star e) sl ss = ((toI (ev e sl ss)).bind fun p => some (.st p.1, p.2)) := (rfl)
theorem e_rg1 (a : CE) (sl : List SV) (ss : SS) : ev (.rg1 a) sl ss = ((toD (ev a sl ss)).f rg1D) := (rfl)
theorem e_rg2 (a : CE) (b : CE) (sl : List SV) (ss : SS) : ev (.rg2 a b) sl ss = ((toD (ev a sl ss)).bind fun p => (toD (ev b sl p.2)).bind fun q => (rg2D p.1 q.1).map fun r => (r, q.2)) := (rfl)
theorem e_enm (a : CE) (sl : List SV) (ss : SS) : ev (.enm a) sl ss = ((toD (ev a sl ss)).f enD) := (rfl)
theorem e_dof (s : Bool) (a : CE) (sl : List SV) (ss : SS) : ev (.dof s a) sl ss = ((toD (ev a sl ss)).f (dofD s)) := (rfl)
theorem e_zip (a : CE) (b : CE) (sl : List SV) (ss : SS) : ev (.zip a b) sl ss = ((toD (ev a sl ss)).bind fun p => (toD (ev b sl p.2)).bind fun q => (zipD p.1 q.1).map fun r => (r, q.2)) := (rfl)
theorem e_sget (k : SK) (i : Nat) (sl : List SV) (ss : SS) : ev (.sget k i) sl ss = (match isSrc sl i with | true => some (.v (.int (ss.get k)), ss) | false => none) := (rfl)
theorem e_slen (i : Nat) (sl : List SV) (ss : SS) : ev (.slen i) sl ss = (match isSrc sl i with | true => some (.v (.int ss.cells.length), ss) | false => none) := (rfl)
theorem es_nil (sl : List SV) (ss : SS) : evs [] sl ss = some ([], ss) := (rfl)
theorem es_cons (e : CE) (es : List CE) (sl : List SV) (ss : SS) : evs (e :: es) sl ss = ((ev e sl ss).bind fun p => (evs es sl p.2).bind fun q => some (p.1 :: q.1, q.2)) := (rfl)
theorem x_set (i : Nat) (e : CE) (sl : List SV) (ss : SS) : ex (.set i e) sl ss = (toSet (ev e sl ss) sl i) := (rfl)
theorem x_unp (t : TGt) (e : CE) (sl : List SV) (ss : SS) : ex (.unp t e) sl ss = ((toD (ev e sl ss)).bind fun p => (bindT t p.1 sl).map fun sl => .nx sl p.2) := (rfl)
theorem x_par (js : List Nat) (es : List CE) (sl : List SV) (ss : SS) : ex (.par js es) sl ss = (((evs es sl ss).f toSs).bind fun p => (setAll js p.1 sl).map fun sl => .nx sl p.2) := (rfl)
theorem x_sto (i : Nat) (k : CE) (e : CE) (sl : List SV) (ss : SS) : ex (.sto i k e) sl ss = ((toE (ev e sl ss)).bind fun p => (toD (ev k sl p.2)).bind fun q => (stoD sl i q.1 p.1).map fun sl => .nx sl q.2) := (rfl)
theorem x_sto2 (i : Nat) (k : CE) (j : Nat) (l : CE) (e : CE) (f : CE) (sl : List SV) (ss : SS) : ex (.sto2 i k j l e f) sl ss = ((toE (ev e sl ss)).bind fun p => (toE (ev f sl p.2)).bind fun q => (toD (ev k sl q.2)).bind fun t => (stoD sl i t.1 p.1).bind fun sl =>
      (toD (ev l sl t.2)).bind fun u => (stoD sl j u.1 q.1).map fun sl => .nx sl u.2) := rfl
theorem x_aug (i : Nat) (o : BOp) (e : CE) (sl : List SV) (ss : SS) : ex (.aug i o e) sl ss = ((toD (ev e sl ss)).bind fun p => (augD sl i o p.1).map fun sl => .nx sl p.2) := (rfl)
theorem x_augs (i : Nat) (k : CE) (o : BOp) (e : CE) (sl : List SV) (ss : SS) : ex (.augs i k o e) sl ss = ((toD (ev k sl ss)).bind fun p => (toD (ev e sl p.2)).bind fun q => (augsD sl i p.1 o q.1).map fun sl => .nx sl q.2) := (rfl)
theorem x_app (i : Nat) (e : CE) (sl : List SV) (ss : SS) : ex (.app i e) sl ss = ((toE (ev e sl ss)).bind fun p => (ownL sl[i]?).bind fun xs => if xs.length < SL then some (.nx (sl.set i (.own (xs ++ [p.1]))) p.2) else none) := (rfl)
theorem x_ext (i : Nat) (e : CE) (sl : List SV) (ss : SS) : ex (.ext i e) sl ss = ((toD (ev e sl ss)).bind fun p => (ownL sl[i]?).bind fun xs => match p.1 with
       | .list ys => if xs.length + ys.length ≤ SL then some (.nx (sl.set i (.own (xs ++ ys))) p.2) else none
       | _ => none) := rfl
theorem x_popS (j : Nat) (i : Nat) (k : CE) (sl : List SV) (ss : SS) : ex (.popS j i k) sl ss = ((toD (ev k sl ss)).bind fun p => (ownL sl[i]?).bind fun xs => (popAt (isNop k) xs p.1).bind fun q => (setS (sl.set i (.own q.2)) j (.v q.1)).map fun sl => .nx sl p.2) := (rfl)
theorem x_exp (e : CE) (sl : List SV) (ss : SS) : ex (.exp e) sl ss = ((ev e sl ss).bind fun p => some (.nx sl p.2)) := (rfl)
theorem x_ite (c : CE) (a : List CS) (b : List CS) (sl : List SV) (ss : SS) : ex (.ite c a b) sl ss = ((toB (ev c sl ss)).bind fun p => if p.1 then exs a sl p.2 else exs b sl p.2) := (rfl)
theorem x_forr (t : TGt) (it : CE) (body : List CS) (sl : List SV) (ss : SS) : ex (.forr t it body) sl ss = ((lockOf it).bind fun is => (toI (ev it sl ss)).bind fun p =>
         match forD (fun d sl' ss => (bindT t d sl').bind fun sl' => keptLocks (is.filter (isLock (lockAll is sl))) (exs body sl' ss)) p.1 (lockAll is sl) p.2 with
         | some (.nx sl' ss') => some (.nx (unlockAll (ownAll sl is) sl') ss')
         | r => r) := rfl
theorem x_whl (c : CE) (body : List CS) (sl : List SV) (ss : SS) : ex (.whl c body) sl ss = (whD (fun sl ss => toB (ev c sl ss)) (fun sl ss => exs body sl ss) FUEL sl ss) := (rfl)
theorem x_ret (e : CE) (sl : List SV) (ss : SS) : ex (.ret e) sl ss = (((ev e sl ss).f retR).bind fun p => some (.rt p.1 p.2)) := (rfl)
theorem x_retn  (sl : List SV) (ss : SS) : ex .retn sl ss = (some (.rt (.v .none) ss)) := rfl
theorem x_frz (i : Nat) (sl : List SV) (ss : SS) : ex (.frz i) sl ss = (some (.nx (frzS sl i) ss)) := (rfl)
theorem x_kill (js : List Nat) (sl : List SV) (ss : SS) : ex (.kill js) sl ss = (some (.nx (killS js sl) ss)) := (rfl)
theorem x_dput (i : Nat) (k : CE) (e : CE) (sl : List SV) (ss : SS) : ex (.dput i k e) sl ss = ((toE (ev e sl ss)).bind fun p => (toD (ev k sl p.2)).bind fun q => (dputD sl i q.1 p.1).map fun sl => .nx sl q.2) := (rfl)
/-! ### comprehensions, by their turns -/
def lcB (elt : CE) (tg : TGt) (cond : List CE) (sl : List SV) : D → SS → Option (Option D × SS) := fun d ss => (bindT tg d (killS tg.slots sl)).bind fun sl' => (toC (evs cond sl' ss)).bind fun q =>
      if q.1 then (toE (ev elt sl' q.2)).bind fun t => some (some t.1, t.2) else some (none, q.2)
theorem ev_lc (elt : CE) (tg : TGt) (it : CE) (cond : List CE) (sl : List SV) (ss : SS) : ev (.lc elt tg it cond) sl ss = (toI (ev it sl ss)).bind fun p => (lcD (lcB elt tg cond sl) p.1 p.2).bind fun q => if p.1.length ≤ SL then some (.fr q.1, q.2) else none := rfl
theorem lcD_pure {f : D → SS → Option (Option D × SS)} {g : D → Option D} {ss : SS} : ∀ {ds : List D}, (∀ d ∈ ds, f d ss = some (g d, ss)) → lcD f ds ss = some (ds.filterMap g, ss)
  | [], _ => rfl
  | d :: ds, h => by
    have h1 := h d List.mem_cons_self
    have ih := lcD_pure (ds := ds) fun x hx => h x (List.mem_cons_of_mem _ hx)
    unfold lcD
    rw [h1]
    cases e : g d with
    | none => rw [List.filterMap_cons_none e]; exact ih
    | some y => rw [List.filterMap_cons_some e]; show (lcD f ds ss).map _ = _; rw [ih]; rfl
theorem ev_lc_pure {elt : CE} {tg : TGt} {it : CE} {cond : List CE} {sl : List SV} {ss : SS} {ds : List D} {g : D → Option D} (hit : toI (ev it sl ss) = some (ds, ss)) (hl : ds.length ≤ SL) (hf : ∀ d ∈ ds, lcB elt tg cond sl d ss = some (g d, ss)) :
    ev (.lc elt tg it cond) sl ss = some (.fr (ds.filterMap g), ss) := by
  rw [ev_lc, hit]
  simp only [Option.bind_some]
  rw [lcD_pure hf]
  simp only [Option.bind_some]
  rw [if_pos hl]
/-- over iL, to iL -/
theorem ev_lc_ints {elt : CE} {tg : TGt} {it : CE} {cond : List CE} {sl : List SV} {ss : SS} {l : List Int} {g : Int → Option Int} (hit : toI (ev it sl ss) = some (iL l, ss)) (hl : l.length ≤ SL) (hf : ∀ i ∈ l, lcB elt tg cond sl (.int i) ss = some ((g i).map .int, ss)) :
    ev (.lc elt tg it cond) sl ss = some (.fr (iL (l.filterMap g)), ss) := by
  have := ev_lc_pure (elt := elt) (tg := tg) (cond := cond) (g := fun d => match d with | .int i => (g i).map .int | _ => none) hit (by simpa [iL] using hl) fun d hd => by
    obtain ⟨i, hi, rfl⟩ := List.mem_map.mp hd
    exact hf i hi
  rw [this]
  congr 3
  unfold iL
  rw [List.filterMap_map, List.map_filterMap]
  rfl
/-- over iL, all of them -/
theorem ev_lc_map {elt : CE} {tg : TGt} {it : CE} {cond : List CE} {sl : List SV} {ss : SS} {l : List Int} {g : Int → Int} (hit : toI (ev it sl ss) = some (iL l, ss)) (hl : l.length ≤ SL) (hf : ∀ i ∈ l, lcB elt tg cond sl (.int i) ss = some (some (.int (g i)), ss)) :
    ev (.lc elt tg it cond) sl ss = some (.fr (iL (l.map g)), ss) := by
  have := ev_lc_ints (g := fun i => some (g i)) hit hl hf
  rw [this]
  congr 3
  rw [← List.filterMap_eq_map]
  rfl
/-- over iL, some of them -/
theorem ev_lc_filter {elt : CE} {tg : TGt} {it : CE} {cond : List CE} {sl : List SV} {ss : SS} {l : List Int} {p : Int → Bool} (hit : toI (ev it sl ss) = some (iL l, ss)) (hl : l.length ≤ SL) (hf : ∀ i ∈ l, lcB elt tg cond sl (.int i) ss = some (if p i then some (.int i) else none, ss)) :
    ev (.lc elt tg it cond) sl ss = some (.fr (iL (l.filter p)), ss) := by
  have := ev_lc_ints (g := fun i => if p i then some i else none) hit hl fun i hi => by
    rw [hf i hi]
    cases p i <;> rfl
  rw [this]
  congr 3
  rw [← List.filterMap_eq_filter]
  rfl
/-- draws within a comprehension -/
theorem lcD_draw {f : D → SS → Option (Option D × SS)} {P : Int → Prop} : ∀ {ds : List D}, (∀ d ∈ ds, ∀ ss, SSok ss → ∃ r ss', f d ss = some (some (.int r), ss') ∧ SSok ss' ∧ P r) → ∀ ss, SSok ss → ∃ rs ss', lcD f ds ss = some (iL rs, ss') ∧ SSok ss' ∧ rs.length = ds.length ∧ ∀ r ∈ rs, P r
  | [], _, ss, ok => ⟨[], ss, rfl, ok, rfl, fun r hr => by cases hr⟩
  | d :: ds, h, ss, ok => by
    obtain ⟨r, s1, e1, ok1, p1⟩ := h d List.mem_cons_self ss ok
    obtain ⟨rs, s2, e2, ok2, hl, hp⟩ := lcD_draw (ds := ds) (fun x hx => h x (List.mem_cons_of_mem _ hx)) s1 ok1
    refine ⟨r :: rs, s2, ?_, ok2, by simp [hl], fun x hx => ?_⟩
    · unfold lcD
      rw [e1]
      simp only
      rw [e2]
      rfl
    · rcases List.mem_cons.mp hx with rfl | hx
      · exact p1
      · exact hp x hx
/-! ### for -/
theorem forD_fold {α : Type} {f : D → List SV → SS → Option Out} {S : α → List SV} {step : α → D → α} {ss : SS} : ∀ {ds : List D} (a : α), (∀ a, ∀ d ∈ ds, f d (S a) ss = some (.nx (S (step a d)) ss)) → forD f ds (S a) ss = some (.nx (S (ds.foldl step a)) ss)
  | [], a, _ => rfl
  | d :: ds, a, h => by
    unfold forD
    rw [h a d List.mem_cons_self]
    exact forD_fold (ds := ds) (step a d) fun b x hx => h b x (List.mem_cons_of_mem _ hx)
/-- a for that keeps an invariant; rest tells what is still to come -/
theorem forD_inv {f : D → List SV → SS → Option Out} {I : List D → List SV → SS → Prop} : ∀ {ds : List D} {sl : List SV} {ss : SS}, I ds sl ss → (∀ d r sl ss, I (d :: r) sl ss → ∃ sl' ss', f d sl ss = some (.nx sl' ss') ∧ I r sl' ss') → ∃ sl' ss', forD f ds sl ss = some (.nx sl' ss') ∧ I [] sl' ss'
  | [], sl, ss, h, _ => ⟨sl, ss, rfl, h⟩
  | d :: ds, sl, ss, h, st => by
    obtain ⟨sl1, s1, e1, h1⟩ := st d ds sl ss h
    obtain ⟨sl2, s2, e2, h2⟩ := forD_inv h1 st
    refine ⟨sl2, s2, ?_, h2⟩
    unfold forD
    rw [e1]
    exact e2
/-- a for over what is no list of the frame's own -/
theorem lockAll_id : ∀ {is : List Nat} {sl : List SV}, (∀ i ∈ is, isOwn sl i = false) → lockAll is sl = sl
  | [], _, _ => rfl
  | i :: is, sl, h => by
    have h1 := h i List.mem_cons_self
    have : lockS sl i = sl := by
      unfold lockS
      unfold isOwn at h1
      split
      · rename_i q; rw [q] at h1; cases h1
      · rfl
    unfold lockAll
    rw [this]
    exact lockAll_id fun j hj => h j (List.mem_cons_of_mem _ hj)
theorem unlockAll_id : ∀ {is : List Nat} {sl0 sl : List SV}, (∀ i ∈ is, isOwn sl0 i = false) → unlockAll (ownAll sl0 is) sl = sl
  | [], _, _, _ => rfl
  | i :: is, sl0, sl, h => by
    unfold ownAll
    rw [List.map_cons, h i List.mem_cons_self]
    unfold unlockAll
    have e : unlockS false sl i = sl := by unfold unlockS; split <;> first | rfl | contradiction
    rw [e]
    exact unlockAll_id (is := is) fun j hj => h j (List.mem_cons_of_mem _ hj)
theorem x_for {t : TGt} {it : CE} {body : List CS} {sl : List SV} {ss ss1 : SS} {is : List Nat} {ds : List D} (h1 : lockOf it = some is) (h2 : toI (ev it sl ss) = some (ds, ss1)) (h3 : ∀ i ∈ is, isOwn sl i = false ∧ isLock sl i = false) :
    ex (.forr t it body) sl ss = forD (fun d sl' ss' => (bindT t d sl').bind fun sl' => exs body sl' ss') ds sl ss1 := by
  have l0 := lockAll_id (is := is) (sl := sl) fun i hi => (h3 i hi).1
  have f0 : is.filter (isLock sl) = [] := by
    rw [List.filter_eq_nil_iff]
    intro i hi q
    rw [(h3 i hi).2] at q; cases q
  have k0 : ∀ x : Option Out, keptLocks [] x = x := fun x => by
    cases x with
    | none => rfl
    | some o => cases o <;> rfl
  rw [x_forr, h1]
  simp only [Option.bind_some, h2, l0, f0, k0]
  cases e : forD (fun d sl' ss' => (bindT t d sl').bind fun sl' => exs body sl' ss') ds sl ss1 with
  | none => rfl
  | some o =>
    cases o with
    | nx sl' ss' => simp only [unlockAll_id (is := is) (sl0 := sl) fun i hi => (h3 i hi).1]
    | rt r ss' => rfl
/-- a for over a list of the frame's own, by its name -/
theorem x_forO {t : TGt} {i : Nat} {body : List CS} {sl : List SV} {ss : SS} {xs : List D} (h : sl[i]? = some (.own xs)) :
    ex (.forr t (.loc i) body) sl ss = match forD (fun d sl' ss' => (bindT t d sl').bind fun sl' => keptLocks [i] (exs body sl' ss')) xs (sl.set i (.lock xs)) ss with
      | some (.nx sl' ss') => some (.nx (unlockS true sl' i) ss')
      | r => r := by
  have hi : i < sl.length := (List.getElem?_eq_some_iff.mp h).1
  have e1 : lockAll [i] sl = sl.set i (.lock xs) := by
    show lockS sl i = _
    unfold lockS
    rw [h]
  have e2 : [i].filter (isLock (sl.set i (.lock xs))) = [i] := by
    rw [List.filter_cons_of_pos]
    · rfl
    · unfold isLock
      rw [List.getElem?_set_self hi]
  have e3 : toI (ev (.loc i) sl ss) = some (xs, ss) := by
    simp [e_loc, toI, O.f, getR, h, slR, itR, rd, seqOf]
  have e4 : ownAll sl [i] = [(i, true)] := by
    unfold ownAll isOwn
    simp [h]
  rw [x_forr]
  show (some [i]).bind _ = _
  simp only [Option.bind_some, e3, e1, e2, e4]
  cases e : forD (fun d sl' ss' => (bindT t d sl').bind fun sl' => keptLocks [i] (exs body sl' ss')) xs (sl.set i (.lock xs)) ss with
  | none => rfl
  | some o => cases o <;> rfl
def rgL (n : Nat) : List Int := (List.range n).map fun (k : Nat) => (k : Int)
theorem rgL_len (n : Nat) : (rgL n).length = n := by simp [rgL]
theorem rg1_ok {e : CE} {sl : List SV} {ss ss' : SS} {n : Nat} (h : toD (ev e sl ss) = some (.int n, ss')) (hn : n ≤ SL) : toI (ev (.rg1 e) sl ss) = some (iL (rgL n), ss') := by
  have hS : SL = 16777216 := rfl
  simp only [ev]
  rw [h]
  simp only [O.f, Option.bind_some, rg1D, range_ints]
  rw [if_pos ⟨by omega, by omega⟩]
  rfl
/-! ### a while that comes to its end -/
theorem whD_run {c : List SV → SS → O Bool} {f : List SV → SS → Option Out} {S : Nat → List SV} {ss : SS} : ∀ (k j n : Nat), k < n → (∀ i, j ≤ i → i < j + k → c (S i) ss = some (true, ss) ∧ f (S i) ss = some (.nx (S (i + 1)) ss)) → c (S (j + k)) ss = some (false, ss) → whD c f n (S j) ss = some (.nx (S (j + k)) ss)
  | 0, j, n, hn, _, h => by
    cases n with
    | zero => omega
    | succ n =>
      rw [Nat.add_zero] at h ⊢
      unfold whD
      rw [h]
      rfl
  | k + 1, j, n, hn, hs, h => by
    cases n with
    | zero => omega
    | succ n =>
      obtain ⟨h1, h2⟩ := hs j (Nat.le_refl _) (by omega)
      unfold whD
      rw [h1]
      simp only [Option.bind_some, if_true]
      rw [h2]
      have e : j + (k + 1) = (j + 1) + k := by omega
      rw [e] at h ⊢
      exact whD_run k (j + 1) n (by omega) (fun i a b => hs i (by omega) (by omega)) h
/-! ### repr -/
/-- its text is short -/
def reprOk (d : D) : Bool := d.showable && decide (d.depth ≤ 64) && d.leavesShort 13 && decide (d.weight ≤ 1048576)
theorem reprD_of {d : D} (h : reprOk d = true) : reprD [d] = some (.v (.str d.shown)) := by
  unfold reprOk at h
  simp only [Bool.and_eq_true, decide_eq_true_eq] at h
  obtain ⟨⟨⟨h1, h2⟩, h3⟩, h4⟩ := h
  unfold reprD
  have := PyData.shown_fits (B := 13) (by decide) (by decide) h3 h4
  rw [SL_eq] at this
  exact if_pos ⟨h1, this, h2⟩
theorem log_le {i : Int} {k : Nat} (h : i.natAbs < 2 ^ k) : i.natAbs.log2 ≤ k := by
  by_cases hz : i.natAbs = 0
  · rw [hz]; simp
  · have := (Nat.log2_lt hz).mpr h
    omega
theorem weight_int {i : Int} (h : i.natAbs < 1073741824) : PyData.weight (.int i) ≤ 31 := by
  unfold PyData.weight
  split
  · omega
  · have := log_le (i := i) (k := 30) (by omega)
    omega
theorem reprOk_int {i : Int} (h : i.natAbs < 1073741824) : reprOk (.int i) = true := by
  unfold reprOk
  simp only [Bool.and_eq_true, decide_eq_true_eq]
  have := weight_int h
  have := log_le (i := i) (k := 30) (by omega)
  refine ⟨⟨⟨?_, by simp [PyData.depth]⟩, PyData.leavesShort_of_canLay0 13 _ rfl ?_⟩, by omega⟩
  · simp only [PyData.showable, decide_eq_true_eq]; omega
  · simp only [PyData.intsShort, decide_eq_true_eq]
    exact PyData.shown_int_le (by omega)
theorem reprOk_bool (b : Bool) : reprOk (.bool b) = true := by cases b <;> decide +kernel
theorem showable_ints : ∀ l : List Int, (∀ i ∈ l, i.natAbs < 1073741824) → PyData.showableAll (iL l) = true
  | [], _ => by simp [PyData.showableAll, iL]
  | i :: l, h => by
    have := showable_ints l fun x hx => h x (List.mem_cons_of_mem _ hx)
    simp only [iL] at this
    have h1 := h i List.mem_cons_self
    have := log_le (i := i) (k := 30) (by omega)
    simp only [iL, List.map_cons, PyData.showableAll, PyData.showable, Bool.and_eq_true, decide_eq_true_eq]
    exact ⟨by omega, by assumption⟩
theorem weight_ints : ∀ l : List Int, (∀ i ∈ l, i.natAbs < 1073741824) → PyData.weightAll (iL l) ≤ 32 * l.length
  | [], _ => by simp [PyData.weightAll, iL]
  | i :: l, h => by
    have h2 := weight_ints l fun x hx => h x (List.mem_cons_of_mem _ hx)
    have h1 := weight_int (h i List.mem_cons_self)
    simp only [iL] at h2
    simp only [iL, List.map_cons, PyData.weightAll, List.length_cons]
    omega
theorem reprOk_tup {l : List Int} (h : ∀ i ∈ l, i.natAbs < 1073741824) (hl : l.length ≤ 32768) : reprOk (.tuple (iL l)) = true := by
  unfold reprOk
  simp only [Bool.and_eq_true, decide_eq_true_eq]
  have hw := weight_ints l h
  refine ⟨⟨⟨?_, by rw [PyData.depth, depthAll_ints]; omega⟩, PyData.leavesShort_of_canLay0 13 _ ?_ ?_⟩, ?_⟩
  · rw [PyData.showable]; exact showable_ints l h
  · rw [PyData.canLay0]; exact canLay_ints l
  · rw [PyData.intsShort]; exact PyData.intsShortAll_ints l fun n hn => by have := h n hn; omega
  · rw [PyData.weight]; omega
/-! ### things in a drawn order -/
theorem popD_ok {xs : List D} {k : Int} (h0 : 0 ≤ k) (h1 : k < xs.length) (hl : xs.length ≤ SL) : ∃ d, xs[k.toNat]? = some d ∧ popAt false xs (.int k) = some (d, xs.eraseIdx k.toNat) := by
  have hk : k.toNat < xs.length := by omega
  refine ⟨xs[k.toNat], List.getElem?_eq_getElem hk, ?_⟩
  have hS : SL = 16777216 := rfl
  unfold popAt
  simp only
  rw [if_pos ⟨by omega, by omega⟩]
  have e : ixN xs.length k = some k.toNat := by
    show L2.ixN xs.length k = _
    unfold L2.ixN
    first
      | rfl
      | (simp; omega)
      | (split <;> simp_all <;> omega)
  rw [e]
  simp only [Option.bind_some]
  rw [List.getElem?_eq_getElem hk]
  rfl
theorem erase_perm {α : Type} : ∀ {xs : List α} {i : Nat} (h : i < xs.length), (xs[i] :: xs.eraseIdx i).Perm xs
  | [], i, h => by simp at h
  | x :: xs, 0, h => by simp
  | x :: xs, i + 1, h => by
    have := erase_perm (xs := xs) (i := i) (by simp at h; omega)
    simp only [List.getElem_cons_succ, List.eraseIdx_cons_succ]
    exact (List.Perm.swap _ _ _).trans (this.cons x)
theorem mix_ok : ∀ (n : Nat) (xs : List D) (ss : SS), xs.length = n → n ≤ SL → SSok ss → ∃ ys ss', mixD F_pick n xs ss = some (ys, ss') ∧ SSok ss' ∧ ys.Perm xs
  | 0, xs, ss, h, _, ok => by
    cases xs with
    | nil => exact ⟨[], ss, rfl, ok, .refl _⟩
    | cons _ _ => simp at h
  | n + 1, xs, ss, h, hl, ok => by
    have hS : SL = 16777216 := rfl
    obtain ⟨r, s1, e1, ok1, p1, p2⟩ := pick_ok xs.length (by omega) ss ok
    obtain ⟨d, e2, e3⟩ := popD_ok (xs := xs) (k := r) p1 (by omega) (by omega)
    obtain ⟨ys, s2, e4, ok2, pm⟩ := mix_ok n (xs.eraseIdx r.toNat) s1 (by rw [List.length_eraseIdx]; split <;> omega) (by omega) ok1
    refine ⟨d :: ys, s2, ?_, ok2, ?_⟩
    · unfold mixD
      rw [e1]
      simp only [Option.bind_some]
      rw [e3]
      simp only [Option.bind_some]
      rw [e4]
      rfl
    · have hlt : r.toNat < xs.length := by omega
      have e5 : xs[r.toNat] = d := by
        rw [List.getElem?_eq_getElem hlt] at e2
        exact Option.some.inj e2
      refine (pm.cons d).trans ?_
      rw [← e5]
      exact erase_perm hlt
def B_mixed : List CS := [.set 2 (.bi .list [(.loc 1)]), .rmix 2 0 3 "_law_pick" F_pick]
def F_mixed : Fn := runF 2 4 B_mixed
theorem mixed_ok {xs : List D} {d : D} (hd : seqOf d = some xs) (hl : xs.length ≤ SL) (ss : SS) (ok : SSok ss) : ∃ ys ss', F_mixed [.src, .v d] ss = some (.fr ys, ss') ∧ SSok ss' ∧ ys.Perm xs := by
  obtain ⟨ys, s1, e1, ok1, pm⟩ := mix_ok xs.length xs ss rfl hl ok
  refine ⟨ys, s1, ?_, ok1, pm⟩
  refine (runF_eq (np := 2) (N := 4) (body := B_mixed) (args := [.src, .v d]) rfl).trans ?_
  simp only [B_mixed, List.map_cons, List.map_nil, AV.sv]
  have h1 : ex (.set 2 (.bi .list [(.loc 1)])) [.src, .v d, .un, .un] ss = some (.nx [.src, .v d, .own xs, .un] ss) := by
    simp [ex, ev, evs, toDs, O.f, rds, rd, biD, listD, hd, toSet, toS, setS, getR, slR]
  have h2 : ex (.rmix 2 0 3 "_law_pick" F_pick) [.src, .v d, .own xs, .un] ss = some (.rt (.fr ys) s1) := by
    simp [ex, ownL, isSrc, hl, e1]
  show outF (exs _ [.src, .v d, .un, .un] ss) = _
  rw [exs_nx h1, exs_rt h2]
  rfl
end Pm
namespace Pm
open PySem
/-! ### rules by premises; pv walks by them -/
section
variable {a b c : CE} {sl sl1 sl' : List SV} {ss s1 s2 s3 : SS} {x y z d : D} {ra rb rc r : R} {j k : Bool} {rs : List R} {ds : List D} {es : List CE}
/-- the second part of and, or, a comparison, what a condition leads to -/
def andK (j : Bool) (b : CE) (sl : List SV) (ss : SS) : O R := if j then (toB (ev b sl ss)).bind fun q => some (bl q.1, q.2) else some (bl false, ss)
def orK (j : Bool) (b : CE) (sl : List SV) (ss : SS) : O R := if j then some (bl true, ss) else (toB (ev b sl ss)).bind fun q => some (bl q.1, q.2)
def cmpK (j : Bool) (o : COp) (y : D) (c : CE) (sl : List SV) (ss : SS) : O R := if j then (toD (ev c sl ss)).bind fun t => (cmpD o y t.1).map fun r => (bl r, t.2) else some (bl false, ss)
def ifK (j : Bool) (a b : CE) (sl : List SV) (ss : SS) : O R := if j then ev a sl ss else ev b sl ss
def iteK (j : Bool) (a b : List CS) (sl : List SV) (ss : SS) : Option Out := if j then exs a sl ss else exs b sl ss
def contK (o : Out) (cs : List CS) : Option Out := match o with
  | .nx sl ss => exs cs sl ss
  | .rt r ss => some (.rt r ss)
theorem tb_of (h : ev a sl ss = some (ra, s1)) (hj : asB ra = some j) : toB (ev a sl ss) = some (j, s1) := by
  unfold toB O.f; rw [h]; simp only [Option.bind_some, hj, Option.map_some]
theorem td_of (h : ev a sl ss = some (ra, s1)) (hj : rd ra = some x) : toD (ev a sl ss) = some (x, s1) := by
  unfold toD O.f; rw [h]; simp only [Option.bind_some, hj, Option.map_some]
theorem te_of (h : ev a sl ss = some (ra, s1)) (hj : esc ra = some x) : toE (ev a sl ss) = some (x, s1) := by
  unfold toE O.f; rw [h]; simp only [Option.bind_some, hj, Option.map_some]
theorem ti_of (h : ev a sl ss = some (ra, s1)) (hj : itR ra = some ds) : toI (ev a sl ss) = some (ds, s1) := by
  unfold toI O.f; rw [h]; simp only [Option.bind_some, hj, Option.map_some]
theorem p_lit : ev (.lit d) sl ss = some (.v d, ss) := rfl
theorem p_glo {x : Str} : ev (.glo x d) sl ss = some (.v d, ss) := rfl
theorem p_nop : ev .nop sl ss = some (.v .none, ss) := rfl
theorem p_loc {i : Nat} (h : getR sl i = some r) : ev (.loc i) sl ss = some (r, ss) := by rw [e_loc, h]; rfl
theorem p_bin {o : BOp} (ha : ev a sl ss = some (ra, s1)) (hx : rd ra = some x) (hb : ev b sl s1 = some (rb, s2)) (hy : rd rb = some y) (h : binD o x y = some r) : ev (.bin o a b) sl ss = some (r, s2) := by
  rw [e_bin, td_of ha hx]; simp only [Option.bind_some, td_of hb hy, h, Option.map_some]
theorem p_neg (ha : ev a sl ss = some (ra, s1)) (hx : rd ra = some x) (h : negD x = some r) : ev (.neg a) sl ss = some (r, s1) := by
  rw [e_neg, td_of ha hx]; simp only [O.f, Option.bind_some, h, Option.map_some]
theorem p_not (ha : ev a sl ss = some (ra, s1)) (hj : asB ra = some j) (hk : (!j) = k) : ev (.not a) sl ss = some (bl k, s1) := by
  rw [e_not, tb_of ha hj, ← hk]; rfl
theorem p_and (ha : ev a sl ss = some (ra, s1)) (hj : asB ra = some j) (hk : andK j b sl s1 = some (r, s2)) : ev (.and a b) sl ss = some (r, s2) := by
  rw [e_and, tb_of ha hj]; exact hk
theorem k_andF : andK false b sl ss = some (bl false, ss) := rfl
theorem k_andT (hb : ev b sl ss = some (rb, s1)) (hk : asB rb = some k) : andK true b sl ss = some (bl k, s1) := by
  unfold andK; rw [tb_of hb hk]; rfl
theorem k_and (hb : ev b sl ss = some (rb, ss)) (hk : asB rb = some k) : andK j b sl ss = some (bl (j && k), ss) := by
  unfold andK; rw [tb_of hb hk]; cases j <;> rfl
theorem p_or (ha : ev a sl ss = some (ra, s1)) (hj : asB ra = some j) (hk : orK j b sl s1 = some (r, s2)) : ev (.or a b) sl ss = some (r, s2) := by
  rw [e_or, tb_of ha hj]; exact hk
theorem k_orT : orK true b sl ss = some (bl true, ss) := rfl
theorem k_orF (hb : ev b sl ss = some (rb, s1)) (hk : asB rb = some k) : orK false b sl ss = some (bl k, s1) := by
  unfold orK; rw [tb_of hb hk]; rfl
theorem k_or (hb : ev b sl ss = some (rb, ss)) (hk : asB rb = some k) : orK j b sl ss = some (bl (j || k), ss) := by
  unfold orK; rw [tb_of hb hk]; cases j <;> rfl
theorem p_cmp {o : COp} (ha : ev a sl ss = some (ra, s1)) (hx : rd ra = some x) (hb : ev b sl s1 = some (rb, s2)) (hy : rd rb = some y) (h : cmpD o x y = some k) : ev (.cmp o a b) sl ss = some (bl k, s2) := by
  rw [e_cmp, td_of ha hx]; simp only [Option.bind_some, td_of hb hy, h, Option.map_some]
theorem p_cmp2 {o o' : COp} (ha : ev a sl ss = some (ra, s1)) (hx : rd ra = some x) (hb : ev b sl s1 = some (rb, s2)) (hy : rd rb = some y) (h : cmpD o x y = some j) (hk : cmpK j o' y c sl s2 = some (r, s3)) : ev (.cmp2 o o' a b c) sl ss = some (r, s3) := by
  rw [e_cmp2, td_of ha hx]; simp only [Option.bind_some, td_of hb hy, h]; exact hk
theorem k_cmpF {o : COp} : cmpK false o y c sl ss = some (bl false, ss) := rfl
theorem k_cmpT {o : COp} (hc : ev c sl ss = some (rc, s1)) (hz : rd rc = some z) (h : cmpD o y z = some k) : cmpK true o y c sl ss = some (bl k, s1) := by
  unfold cmpK; rw [td_of hc hz]; simp only [Option.bind_some, h, Option.map_some, if_true]
theorem k_cmp {o : COp} (hc : ev c sl ss = some (rc, ss)) (hz : rd rc = some z) (h : cmpD o y z = some k) : cmpK j o y c sl ss = some (bl (j && k), ss) := by
  unfold cmpK; rw [td_of hc hz]; simp only [Option.bind_some, h, Option.map_some]; cases j <;> rfl
theorem p_ife (hc : ev c sl ss = some (rc, s1)) (hj : asB rc = some j) (hk : ifK j a b sl s1 = some (r, s2)) : ev (.ife c a b) sl ss = some (r, s2) := by
  rw [e_ife, tb_of hc hj]; exact hk
theorem k_ifT (h : ev a sl ss = some (r, s1)) : ifK true a b sl ss = some (r, s1) := h
theorem k_ifF (h : ev b sl ss = some (r, s1)) : ifK false a b sl ss = some (r, s1) := h
theorem p_nil : evs [] sl ss = some ([], ss) := rfl
theorem p_cons (ha : ev a sl ss = some (ra, s1)) (h : evs es sl s1 = some (rs, s2)) : evs (a :: es) sl ss = some (ra :: rs, s2) := by
  rw [es_cons, ha]; simp only [Option.bind_some, h]
theorem p_tup (he : evs es sl ss = some (rs, s1)) (hd : dispR rs = some ds) (hl : ds.length ≤ SL) : ev (.tup es) sl ss = some (.v (.tuple ds), s1) := by
  rw [e_tup, he]; unfold toX O.f; simp only [Option.bind_some, hd, Option.map_some, hl, if_true]
theorem p_lst (he : evs es sl ss = some (rs, s1)) (hd : dispR rs = some ds) (hl : ds.length ≤ SL) : ev (.lst es) sl ss = some (.fr ds, s1) := by
  rw [e_lst, he]; unfold toX O.f; simp only [Option.bind_some, hd, Option.map_some, hl, if_true]
theorem p_rg1 (ha : ev a sl ss = some (ra, s1)) (hx : rd ra = some x) (h : rg1D x = some r) : ev (.rg1 a) sl ss = some (r, s1) := by
  rw [e_rg1, td_of ha hx]; simp only [O.f, Option.bind_some, h, Option.map_some]
theorem p_rg2 (ha : ev a sl ss = some (ra, s1)) (hx : rd ra = some x) (hb : ev b sl s1 = some (rb, s2)) (hy : rd rb = some y) (h : rg2D x y = some r) : ev (.rg2 a b) sl ss = some (r, s2) := by
  rw [e_rg2, td_of ha hx]; simp only [Option.bind_some, td_of hb hy, h, Option.map_some]
theorem p_enm (ha : ev a sl ss = some (ra, s1)) (hx : rd ra = some x) (h : enD x = some r) : ev (.enm a) sl ss = some (r, s1) := by
  rw [e_enm, td_of ha hx]; simp only [O.f, Option.bind_some, h, Option.map_some]
theorem p_dof {q : Bool} (ha : ev a sl ss = some (ra, s1)) (hx : rd ra = some x) (h : dofD q x = some r) : ev (.dof q a) sl ss = some (r, s1) := by
  rw [e_dof, td_of ha hx]; simp only [O.f, Option.bind_some, h, Option.map_some]
theorem p_zip (ha : ev a sl ss = some (ra, s1)) (hx : rd ra = some x) (hb : ev b sl s1 = some (rb, s2)) (hy : rd rb = some y) (h : zipD x y = some r) : ev (.zip a b) sl ss = some (r, s2) := by
  rw [e_zip, td_of ha hx]; simp only [Option.bind_some, td_of hb hy, h, Option.map_some]
theorem p_rev (ha : ev a sl ss = some (ra, s1)) (hx : rd ra = some x) (h : revD x = some r) : ev (.rev a) sl ss = some (r, s1) := by
  rw [e_rev, td_of ha hx]; simp only [O.f, Option.bind_some, h, Option.map_some]
theorem p_star (ha : ev a sl ss = some (ra, s1)) (hx : itR ra = some ds) : ev (.star a) sl ss = some (.st ds, s1) := by
  rw [e_star, ti_of ha hx]; rfl
theorem p_idx (ha : ev a sl ss = some (ra, s1)) (hx : rd ra = some x) (hb : ev b sl s1 = some (rb, s2)) (hy : rd rb = some y) (h : idxD x y = some d) : ev (.idx a b) sl ss = some (.v d, s2) := by
  rw [e_idx, td_of ha hx]; simp only [Option.bind_some, td_of hb hy, h, Option.map_some]
theorem tp_nop : toP .nop (some (.v .none, ss)) = some (.none, ss) := rfl
theorem tp_int {i : Int} (hn : isNop a = false) (ha : ev a sl ss = some (ra, s1)) (hx : rd ra = some (.int i)) : toP a (ev a sl ss) = some (.int i, s1) := by
  have : rdInt ra = some (.int i) := by unfold rdInt; rw [hx]
  unfold toP; rw [hn, ha]; simp only [O.f, Option.bind_some, this, Option.map_some]
/-- x[:b], x[a:], x[a:b] -/
theorem p_sliB {i : Int} (ha : ev a sl ss = some (ra, s1)) (hx : rd ra = some x) (hn : isNop b = false) (hb : ev b sl s1 = some (rb, s2)) (hy : rd rb = some (.int i)) (h : sliD x .none (.int i) = some r) : ev (.sli a .nop b) sl ss = some (r, s2) := by
  have t := tp_int hn hb hy
  have n : toP .nop (ev .nop sl s1) = some (.none, s1) := rfl
  rw [e_sli, td_of ha hx]; simp only [Option.bind_some, n, t, h, Option.map_some]
theorem p_sliA {i : Int} (ha : ev a sl ss = some (ra, s1)) (hx : rd ra = some x) (hn : isNop b = false) (hb : ev b sl s1 = some (rb, s2)) (hy : rd rb = some (.int i)) (h : sliD x (.int i) .none = some r) : ev (.sli a b .nop) sl ss = some (r, s2) := by
  have t := tp_int hn hb hy
  have n : toP .nop (ev .nop sl s2) = some (.none, s2) := rfl
  rw [e_sli, td_of ha hx]; simp only [Option.bind_some, n, t, h, Option.map_some]
theorem p_sli {i i' : Int} (ha : ev a sl ss = some (ra, s1)) (hx : rd ra = some x) (hn : isNop b = false) (hb : ev b sl s1 = some (rb, s2)) (hy : rd rb = some (.int i)) (hn' : isNop c = false) (hc : ev c sl s2 = some (rc, s3)) (hz : rd rc = some (.int i')) (h : sliD x (.int i) (.int i') = some r) : ev (.sli a b c) sl ss = some (r, s3) := by
  have t := tp_int hn hb hy
  have t' := tp_int hn' hc hz
  rw [e_sli, td_of ha hx]; simp only [Option.bind_some, t, t', h, Option.map_some]
theorem p_bi {f : Bi} (he : evs es sl ss = some (rs, s1)) (hd : rds rs = some ds) (h : biD f ds = some r) : ev (.bi f es) sl ss = some (r, s1) := by
  rw [e_bi, he]; simp only [toDs, O.f, Option.bind_some, hd, Option.map_some, h]
theorem p_met {m : Me} (ha : ev a sl ss = some (ra, s1)) (hx : rd ra = some x) (he : evs es sl s1 = some (rs, s2)) (hd : rds rs = some ds) (h : meD m x ds = some r) : ev (.met m a es) sl ss = some (r, s2) := by
  rw [e_met, td_of ha hx]; simp only [toDs, O.f, Option.bind_some, he, hd, Option.map_some, h]
theorem p_call {n : Str} {f : Fn} {as : List AV} (he : evs es sl ss = some (rs, s1)) (ha : toAs rs = some as) (hf : f as s1 = some (r, s2)) (ho : isOut r = true) (hb : (rs.any isBo && !r.lf) = false) : ev (.call n f es) sl ss = some (r, s2) := by
  rw [e_call, he]
  simp only [Option.bind_some, callD, ha, hf]
  rw [if_pos]
  refine ⟨ho, fun q => ?_⟩
  rw [q] at hb
  cases e : r.lf with
  | true => rfl
  | false => rw [e] at hb; cases hb
theorem p_sget {q : SK} {i : Nat} (h : isSrc sl i = true) : ev (.sget q i) sl ss = some (.v (.int (ss.get q)), ss) := by rw [e_sget, h]
theorem p_slen {i : Nat} (h : isSrc sl i = true) : ev (.slen i) sl ss = some (.v (.int ss.cells.length), ss) := by rw [e_slen, h]
theorem p_newk : ev .newk sl ss = some (.nk [], ss) := rfl
theorem p_dhas {i : Nat} (ha : ev a sl ss = some (ra, s1)) (hx : rd ra = some x) (h : dhasD j sl i x = some r) : ev (.dhas j a i) sl ss = some (r, s1) := by
  rw [e_dhas, td_of ha hx]; simp only [O.f, Option.bind_some, h, Option.map_some]
theorem p_dget {i : Nat} (ha : ev a sl ss = some (ra, s1)) (hx : rd ra = some x) (h : dgetD sl i x = some r) : ev (.dget i a) sl ss = some (r, s1) := by
  rw [e_dget, td_of ha hx]; simp only [O.f, Option.bind_some, h, Option.map_some]
theorem p_dget2 {i : Nat} (ha : ev a sl ss = some (ra, s1)) (hx : rd ra = some x) (hb : ev b sl s1 = some (rb, s2)) (hy : esc rb = some y) (h : dget2D sl i x y = some r) : ev (.dget2 i a b) sl ss = some (r, s2) := by
  rw [e_dget2, td_of ha hx]; simp only [Option.bind_some, te_of hb hy, h, Option.map_some]
/-! statements -/
theorem q_nil : exs [] sl ss = some (.nx sl ss) := rfl
theorem q_cons {s : CS} {cs : List CS} {o o' : Out} (h : ex s sl ss = some o) (h' : contK o cs = some o') : exs (s :: cs) sl ss = some o' := by
  rw [exs_cons, h]; cases o <;> exact h'
theorem k_nx {cs : List CS} {o : Out} (h : exs cs sl ss = some o) : contK (.nx sl ss) cs = some o := h
theorem k_rt {cs : List CS} : contK (.rt r ss) cs = some (.rt r ss) := rfl
theorem k_rt' {cs : List CS} {r' : R} (h : r = r') : contK (.rt r ss) cs = some (.rt r' ss) := by rw [h]; rfl
theorem set_0 {s s' : SV} {l : List SV} : (s :: l).set 0 s' = s' :: l := rfl
theorem set_1 {s s' : SV} {l l' : List SV} {i : Nat} (h : l.set i s' = l') : (s :: l).set (i + 1) s' = s :: l' := by rw [← h]; rfl
theorem q_set {i : Nat} {s : SV} (h : ev a sl ss = some (r, s1)) (hr : toS r = some s) (hi : i < sl.length) (hs : sl.set i s = sl') : ex (.set i a) sl ss = some (.nx sl' s1) := by
  rw [x_set, h]; simp only [toSet, Option.bind_some, hr, setS, hi, if_true, Option.map_some, hs]
theorem q_unp {t : TGt} (h : ev a sl ss = some (ra, s1)) (hx : rd ra = some x) (hb : bindT t x sl = some sl') : ex (.unp t a) sl ss = some (.nx sl' s1) := by
  rw [x_unp, td_of h hx]; simp only [Option.bind_some, hb, Option.map_some]
theorem q_par {js : List Nat} {vs : List SV} (he : evs es sl ss = some (rs, s1)) (hs : toSs rs = some vs) (hb : setAll js vs sl = some sl') : ex (.par js es) sl ss = some (.nx sl' s1) := by
  rw [x_par, he]; simp only [O.f, Option.bind_some, hs, Option.map_some, hb]
theorem sa_nil : setAll [] [] sl = some sl := rfl
theorem sa_cons {i : Nat} {s : SV} {js : List Nat} {vs : List SV} (hi : i < sl.length) (hs : sl.set i s = sl1) (h : setAll js vs sl1 = some sl') : setAll (i :: js) (s :: vs) sl = some sl' := by
  unfold setAll setS; rw [if_pos hi, hs]; exact h
theorem b_one {i : Nat} (hi : i < sl.length) (hs : sl.set i (.v d) = sl') : bindT (.one i) d sl = some sl' := by
  unfold bindT setS; rw [if_pos hi, hs]
theorem b_tup {ts : List TGt} (h : bindTs ts ds sl = some sl') : bindT (.tup ts) (.tuple ds) sl = some sl' := by
  unfold bindT; exact h
theorem b_nil : bindTs [] [] sl = some sl := by simp [bindTs]
theorem b_cons {t : TGt} {ts : List TGt} (h : bindT t d sl = some sl1) (h' : bindTs ts ds sl1 = some sl') : bindTs (t :: ts) (d :: ds) sl = some sl' := by
  rw [bindTs, h]; exact h'
theorem q_aug {i : Nat} {o : BOp} (h : ev a sl ss = some (ra, s1)) (hx : rd ra = some x) (hb : augD sl i o x = some sl') : ex (.aug i o a) sl ss = some (.nx sl' s1) := by
  rw [x_aug, td_of h hx]; simp only [Option.bind_some, hb, Option.map_some]
theorem q_sto {i : Nat} (h : ev a sl ss = some (ra, s1)) (hx : esc ra = some x) (hb : ev b sl s1 = some (rb, s2)) (hy : rd rb = some y) (hs : stoD sl i y x = some sl') : ex (.sto i b a) sl ss = some (.nx sl' s2) := by
  rw [x_sto, te_of h hx]; simp only [Option.bind_some, td_of hb hy, hs, Option.map_some]
theorem q_augs {i : Nat} {o : BOp} (h : ev a sl ss = some (ra, s1)) (hx : rd ra = some x) (hb : ev b sl s1 = some (rb, s2)) (hy : rd rb = some y) (hs : augsD sl i x o y = some sl') : ex (.augs i a o b) sl ss = some (.nx sl' s2) := by
  rw [x_augs, td_of h hx]; simp only [Option.bind_some, td_of hb hy, hs, Option.map_some]
theorem q_app {i : Nat} {xs : List D} (h : ev a sl ss = some (ra, s1)) (hx : esc ra = some x) (ho : ownL sl[i]? = some xs) (hl : xs.length < SL) (hs : sl.set i (.own (xs ++ [x])) = sl') : ex (.app i a) sl ss = some (.nx sl' s1) := by
  rw [x_app, te_of h hx]; simp only [Option.bind_some, ho, hl, if_true, hs]
theorem q_exp (h : ev a sl ss = some (r, s1)) : ex (.exp a) sl ss = some (.nx sl s1) := by
  rw [x_exp, h]; rfl
theorem q_ite {u v : List CS} {o : Out} (hc : ev c sl ss = some (rc, s1)) (hj : asB rc = some j) (hk : iteK j u v sl s1 = some o) : ex (.ite c u v) sl ss = some o := by
  rw [x_ite, tb_of hc hj]; exact hk
theorem k_iteT {u v : List CS} {o : Out} (h : exs u sl ss = some o) : iteK true u v sl ss = some o := h
theorem k_iteF {u v : List CS} {o : Out} (h : exs v sl ss = some o) : iteK false u v sl ss = some o := h
theorem q_ret {r' : R} (h : ev a sl ss = some (r, s1)) (hr : retR r = some r') : ex (.ret a) sl ss = some (.rt r' s1) := by
  rw [x_ret, h]; simp only [O.f, Option.bind_some, hr, Option.map_some]
theorem q_retn : ex .retn sl ss = some (.rt (.v .none) ss) := rfl
theorem q_frz {i : Nat} (h : frzS sl i = sl') : ex (.frz i) sl ss = some (.nx sl' ss) := by rw [x_frz, h]
theorem q_kill {js : List Nat} (h : killS js sl = sl') : ex (.kill js) sl ss = some (.nx sl' ss) := by rw [x_kill, h]
theorem fz_id {i : Nat} (h : isOwn sl i = false) : frzS sl i = sl := by
  unfold frzS isOwn at *
  split
  · rename_i q; rw [q] at h; cases h
  · rfl
theorem fz_own {i : Nat} {xs : List D} (h : sl[i]? = some (.own xs)) (hs : sl.set i (.v (.list xs)) = sl') : frzS sl i = sl' := by
  unfold frzS; rw [h]; exact hs
theorem ki_nil : killS [] sl = sl := rfl
theorem ki_cons {i : Nat} {js : List Nat} (h : killS js sl = sl1) (hs : sl1.set i .un = sl') : killS (i :: js) sl = sl' := by
  rw [killS, h, hs]
/-- a for over what is no list of the frame's own -/
theorem q_for {t : TGt} {it : CE} {body : List CS} {is : List Nat} {o : Out} (h1 : lockOf it = some is) (h2 : ev it sl ss = some (ra, s1)) (h2' : itR ra = some ds) (h3 : (is.all fun i => !isOwn sl i && !isLock sl i) = true)
    (h4 : forD (fun d sl' ss' => (bindT t d sl').bind fun sl' => exs body sl' ss') ds sl s1 = some o) : ex (.forr t it body) sl ss = some o := by
  rw [x_for h1 (ti_of h2 h2') (fun i hi => by have := List.all_eq_true.mp h3 i hi; simpa using this)]
  exact h4
theorem f_run {np N : Nat} {body : List CS} {args : List AV} (h : args.length = np) (hs : args.map AV.sv ++ List.replicate (N - np) .un = sl) (hb : exs body sl ss = some (.rt r s1)) : runF np N body args ss = some (r, s1) := by
  rw [runF_eq h, hs, hb]; rfl
/-! a comprehension's turn -/
theorem lc_turnF {elt : CE} {tg : TGt} {cond : List CE} {js : List Nat} (hg : tg.slots = js) (hk : killS js sl = sl1) (hb : bindT tg d sl1 = some sl') (he : evs cond sl' ss = some (rs, s1)) (hc : condR rs = some false) : lcB elt tg cond sl d ss = some (none, s1) := by
  unfold lcB toC O.f; rw [hg, hk, hb]; simp only [Option.bind_some, he, hc, Option.map_some]; rfl
theorem lc_turnT {elt : CE} {tg : TGt} {cond : List CE} {js : List Nat} (hg : tg.slots = js) (hk : killS js sl = sl1) (hb : bindT tg d sl1 = some sl') (he : evs cond sl' ss = some (rs, s1)) (hc : condR rs = some true) (h : ev elt sl' s1 = some (r, s2)) (hx : esc r = some x) : lcB elt tg cond sl d ss = some (some x, s2) := by
  unfold lcB toC O.f; rw [hg, hk, hb]; simp only [Option.bind_some, he, hc, Option.map_some, te_of h hx]; rfl
end
/-! comparisons -/
section
variable {i j : Int} {a b : Str} {x y : D}
theorem c_ltT (h : i < j) : cmpD .lt (.int i) (.int j) = some true := by show some (decide _) = _; rw [decide_eq_true h]
theorem c_ltF (h : ¬ i < j) : cmpD .lt (.int i) (.int j) = some false := by show some (decide _) = _; rw [decide_eq_false h]
theorem c_lt : cmpD .lt (.int i) (.int j) = some (decide (i < j)) := rfl
theorem c_leT (h : i ≤ j) : cmpD .le (.int i) (.int j) = some true := by show some (decide _) = _; rw [decide_eq_true h]
theorem c_leF (h : ¬ i ≤ j) : cmpD .le (.int i) (.int j) = some false := by show some (decide _) = _; rw [decide_eq_false h]
theorem c_le : cmpD .le (.int i) (.int j) = some (decide (i ≤ j)) := rfl
theorem c_gtT (h : j < i) : cmpD .gt (.int i) (.int j) = some true := by show some (decide _) = _; rw [decide_eq_true h]
theorem c_gtF (h : ¬ j < i) : cmpD .gt (.int i) (.int j) = some false := by show some (decide _) = _; rw [decide_eq_false h]
theorem c_gt : cmpD .gt (.int i) (.int j) = some (decide (j < i)) := rfl
theorem c_geT (h : j ≤ i) : cmpD .ge (.int i) (.int j) = some true := by show some (decide _) = _; rw [decide_eq_true h]
theorem c_geF (h : ¬ j ≤ i) : cmpD .ge (.int i) (.int j) = some false := by show some (decide _) = _; rw [decide_eq_false h]
theorem c_ge : cmpD .ge (.int i) (.int j) = some (decide (j ≤ i)) := rfl
theorem c_eqT (h : i = j) : cmpD .eq (.int i) (.int j) = some true := by subst h; show some (i == i) = _; simp
theorem c_eqF (h : ¬ i = j) : cmpD .eq (.int i) (.int j) = some false := by show some (i == j) = _; simp [h]
theorem c_eq : cmpD .eq (.int i) (.int j) = some (decide (i = j)) := rfl
theorem c_neT (h : ¬ i = j) : cmpD .ne (.int i) (.int j) = some true := by show some (!(i == j)) = _; simp [h]
theorem c_neF (h : i = j) : cmpD .ne (.int i) (.int j) = some false := by subst h; show some (!(i == i)) = _; simp
theorem c_ne : cmpD .ne (.int i) (.int j) = some (!decide (i = j)) := rfl
theorem c_eqsT (h : a = b) : cmpD .eq (.str a) (.str b) = some true := by subst h; show some (a == a) = _; simp
theorem c_eqsF (h : ¬ a = b) : cmpD .eq (.str a) (.str b) = some false := by show some (a == b) = _; simp [h]
theorem c_nesT (h : ¬ a = b) : cmpD .ne (.str a) (.str b) = some true := by show some (!(a == b)) = _; simp [h]
theorem c_nesF (h : a = b) : cmpD .ne (.str a) (.str b) = some false := by subst h; show some (!(a == a)) = _; simp
theorem c_ni {k : Bool} (h : cmpD .isin x y = some k) : cmpD .notin x y = some (!k) := by show (inD x y).map _ = _; rw [show inD x y = some k from h]; rfl
theorem c_nq {k : Bool} (h : cmpD .eq x y = some k) : cmpD .ne x y = some (!k) := by show (eqD x y).map _ = _; rw [show eqD x y = some k from h]; rfl
theorem len_iLt {l : List Int} : biD .len [.tuple (iL l)] = some (.v (.int l.length)) := by show some (R.v (.int (iL l).length)) = _; rw [iL_len]
theorem len_iLl {l : List Int} : biD .len [.list (iL l)] = some (.v (.int l.length)) := by show some (R.v (.int (iL l).length)) = _; rw [iL_len]
theorem add_int : binD .add (.int i) (.int j) = some (.v (.int (i + j))) := rfl
theorem sub_int : binD .sub (.int i) (.int j) = some (.v (.int (i - j))) := rfl
theorem idx_0t {d : D} {ds : List D} : idxD (.tuple (d :: ds)) (.int 0) = some d := by
  unfold idxD; simp [ixN, L2.ixN]
theorem idx_0l {d : D} {ds : List D} : idxD (.list (d :: ds)) (.int 0) = some d := by
  unfold idxD; simp [ixN, L2.ixN]
theorem idx_1t {d e : D} {ds : List D} : idxD (.tuple (d :: e :: ds)) (.int 1) = some e := by
  unfold idxD; simp [ixN, L2.ixN]; rw [if_pos (by omega)]; rfl
theorem idx_1l {d e : D} {ds : List D} : idxD (.list (d :: e :: ds)) (.int 1) = some e := by
  unfold idxD; simp [ixN, L2.ixN]; rw [if_pos (by omega)]; rfl
end
section
variable {sl sl1 sl' : List SV} {ss s1 s2 : SS} {x y z d : D} {r : R} {j k : Bool} {rs : List R} {ds : List D} {es : List CE}
theorem bT {f : Bi} (h : biD f ds = some (.v (.bool true))) : biD f ds = some (bl true) := h
theorem bF {f : Bi} (h : biD f ds = some (.v (.bool false))) : biD f ds = some (bl false) := h
theorem cT {o : COp} (h : cmpD o x y = some true) : cmpD o x y = some true := h
theorem cF {o : COp} (h : cmpD o x y = some false) : cmpD o x y = some false := h
theorem c_isb {b c : Bool} : cmpD (.isb c) (.bool b) y = some (b == c) := rfl
theorem c_isn : cmpD .isn x y = some (isNone x) := rfl
theorem c_notn : cmpD .notn x y = some (!isNone x) := rfl
theorem l_rd (h : rd r = some x) : rd r = some x := h
theorem l_esc (h : esc r = some x) : esc r = some x := h
theorem l_asB (h : asB r = some j) : asB r = some j := h
theorem l_itR (h : itR r = some ds) : itR r = some ds := h
theorem l_toS {s : SV} (h : toS r = some s) : toS r = some s := h
theorem l_retR {r' : R} (h : retR r = some r') : retR r = some r' := h
theorem l_getR {i : Nat} (h : getR sl i = some r) : getR sl i = some r := h
theorem l_isOut (h : isOut r = true) : isOut r = true := h
theorem l_isNop {a : CE} (h : isNop a = false) : isNop a = false := h
theorem l_bo (h : (rs.any isBo && !r.lf) = false) : (rs.any isBo && !r.lf) = false := h
theorem bo_no (h : rs.any isBo = false) : (rs.any isBo && !r.lf) = false := by rw [h]; rfl
theorem bo_lf (h : r.lf = true) : (rs.any isBo && !r.lf) = false := by rw [h]; simp
theorem l_src {i : Nat} (h : isSrc sl i = true) : isSrc sl i = true := h
theorem l_lockOf {a : CE} {is : List Nat} (h : lockOf a = some is) : lockOf a = some is := h
theorem l_lk {is : List Nat} (h : (is.all fun i => !isOwn sl i && !isLock sl i) = true) : (is.all fun i => !isOwn sl i && !isLock sl i) = true := h
theorem l_ownL {i : Nat} {xs : List D} (h : ownL sl[i]? = some xs) : ownL sl[i]? = some xs := h
theorem l_isOwn {i : Nat} (h : isOwn sl i = false) : isOwn sl i = false := h
theorem l_at {i : Nat} {s : SV} (h : sl[i]? = some s) : sl[i]? = some s := h
theorem l_lt {α : Type} {l : List α} {i : Nat} (h : i < l.length) : i < l.length := h
theorem l_le {α : Type} {l : List α} {i : Nat} (h : l.length ≤ i) : l.length ≤ i := h
theorem l_lt' {α : Type} {l : List α} {i : Nat} (h : l.length < i) : l.length < i := h
theorem dr_nil : dispR [] = some [] := rfl
theorem dr_v (h : dispR rs = some ds) : dispR (.v d :: rs) = some (d :: ds) := by show (some d).bind _ = _; simp only [Option.bind_some, h, Option.map_some]
theorem dr_fr {xs : List D} (h : dispR rs = some ds) : dispR (.fr xs :: rs) = some (.list xs :: ds) := by show (some (PyData.list xs)).bind _ = _; simp only [Option.bind_some, h, Option.map_some]
theorem dr_bl (h : dispR rs = some ds) : dispR (bl j :: rs) = some (.bool j :: ds) := dr_v h
theorem dr_st {xs : List D} (h : dispR rs = some ds) : dispR (.st xs :: rs) = some (xs ++ ds) := by show (dispR rs).map _ = _; rw [h]; rfl
theorem rs_nil : rds [] = some [] := rfl
theorem rs_v (h : rds rs = some ds) : rds (.v d :: rs) = some (d :: ds) := by show (some d).bind _ = _; simp only [Option.bind_some, h, Option.map_some]
theorem rs_fr {xs : List D} (h : rds rs = some ds) : rds (.fr xs :: rs) = some (.list xs :: ds) := by show (some (PyData.list xs)).bind _ = _; simp only [Option.bind_some, h, Option.map_some]
theorem rs_bo {xs : List D} (h : rds rs = some ds) : rds (.bo xs :: rs) = some (.list xs :: ds) := by show (some (PyData.list xs)).bind _ = _; simp only [Option.bind_some, h, Option.map_some]
theorem rs_bl (h : rds rs = some ds) : rds (bl j :: rs) = some (.bool j :: ds) := rs_v h
theorem ta_nil : toAs [] = some [] := rfl
section
variable {as : List AV}
theorem ta_v (h : toAs rs = some as) : toAs (.v d :: rs) = some (.v d :: as) := by show (some (AV.v d)).bind _ = _; simp only [Option.bind_some, h, Option.map_some]
theorem ta_fr {xs : List D} (h : toAs rs = some as) : toAs (.fr xs :: rs) = some (.v (.list xs) :: as) := by show (some (AV.v (.list xs))).bind _ = _; simp only [Option.bind_some, h, Option.map_some]
theorem ta_bo {xs : List D} (h : toAs rs = some as) : toAs (.bo xs :: rs) = some (.v (.list xs) :: as) := by show (some (AV.v (.list xs))).bind _ = _; simp only [Option.bind_some, h, Option.map_some]
theorem ta_src (h : toAs rs = some as) : toAs (.src :: rs) = some (.src :: as) := by show (some AV.src).bind _ = _; simp only [Option.bind_some, h, Option.map_some]
theorem ta_bl (h : toAs rs = some as) : toAs (bl j :: rs) = some (.v (.bool j) :: as) := ta_v h
theorem fs_v {R : List SV} (h : as.map AV.sv ++ R = sl) : (AV.v d :: as).map AV.sv ++ R = .v d :: sl := by rw [← h]; rfl
theorem fs_s {R : List SV} (h : as.map AV.sv ++ R = sl) : (AV.src :: as).map AV.sv ++ R = .src :: sl := by rw [← h]; rfl
theorem fs_n {n : Nat} (h : List.replicate n SV.un = sl) : [].map AV.sv ++ List.replicate n SV.un = sl := h
theorem fr_0 : List.replicate 0 SV.un = [] := rfl
theorem fr_1 {n : Nat} (h : List.replicate n SV.un = sl) : List.replicate (n + 1) SV.un = .un :: sl := by rw [← h]; rfl
end
theorem ss_nil : toSs [] = some [] := rfl
theorem ss_cons {s : SV} {vs : List SV} (h : toS r = some s) (h' : toSs rs = some vs) : toSs (r :: rs) = some (s :: vs) := by
  show (toS r).bind _ = _; simp only [h, Option.bind_some, h', Option.map_some]
theorem cr_nil : condR [] = some true := rfl
theorem cr_cons (h : asB r = some j) : condR (r :: rs) = some j := h
theorem lr_v {i : Nat} {n : Int} {o : BOp} (h : sl[i]? = some (.v (.int n))) (ha : augI o (.int n) x = some z) (hs : sl.set i (.v z) = sl') : augD sl i o x = some sl' := by
  unfold augD; rw [h]; simp only [ha, Option.map_some, hs]
theorem ai_add {i j : Int} : augI .add (.int i) (.int j) = some (.int (i + j)) := rfl
theorem ai_sub {i j : Int} : augI .sub (.int i) (.int j) = some (.int (i - j)) := rfl
theorem slots1 {i : Nat} : (TGt.one i).slots = [i] := rfl
theorem slots2 {i j : Nat} : (TGt.tup [.one i, .one j]).slots = [i, j] := rfl
end
theorem l_cmpD {o : COp} {x y : D} {k : Bool} (h : cmpD o x y = some k) : cmpD o x y = some k := h
theorem asF {m : O R} {k : Bool} {ss : SS} (h : m = some (.v (.bool k), ss)) (e : k = false) : m = some (bl false, ss) := by rw [h, e]; rfl
theorem asT {m : O R} {k : Bool} {ss : SS} (h : m = some (.v (.bool k), ss)) (e : k = true) : m = some (bl true, ss) := by rw [h, e]; rfl
theorem cqF {o : COp} {x y : D} {k : Bool} (h : cmpD o x y = some k) (e : k = false) : cmpD o x y = some false := by rw [h, e]
theorem cqT {o : COp} {x y : D} {k : Bool} (h : cmpD o x y = some k) (e : k = true) : cmpD o x y = some true := by rw [h, e]
theorem l_eqR {r r' : R} (h : r = r') : r = r' := h
theorem l_not {j k : Bool} (h : (!j) = k) : (!j) = k := h
theorem l_biD {f : Bi} {ds : List D} {r : R} (h : biD f ds = some r) : biD f ds = some r := h
theorem l_qnil {sl : List SV} {ss : SS} {o : Out} (h : Out.nx sl ss = o) : exs [] sl ss = some o := by rw [← h]; rfl
theorem exs_app {b : List CS} {sl1 : List SV} {s1 : SS} : ∀ {a : List CS} {sl : List SV} {ss : SS}, exs a sl ss = some (.nx sl1 s1) → exs (a ++ b) sl ss = exs b sl1 s1
  | [], sl, ss, h => by
    have h : some (Out.nx sl ss) = some (.nx sl1 s1) := h
    cases h; rfl
  | c :: a, sl, ss, h => by
    rw [exs_cons] at h
    rw [List.cons_append, exs_cons]
    cases e : ex c sl ss with
    | none => rw [e] at h; cases h
    | some o =>
      rw [e] at h
      cases o with
      | nx sl2 s2 => exact exs_app (a := a) h
      | rt r s2 => cases h
theorem l_negD {x : D} {r : R} (h : negD x = some r) : negD x = some r := h
theorem l_revD {x : D} {r : R} (h : revD x = some r) : revD x = some r := h
theorem l_enD {x : D} {r : R} (h : enD x = some r) : enD x = some r := h
theorem add_tup {a b : List D} (h : a.length + b.length ≤ SL) : binD .add (.tuple a) (.tuple b) = some (.v (.tuple (a ++ b))) := if_pos h
theorem add_list {a b : List D} (h : a.length + b.length ≤ SL) : binD .add (.list a) (.list b) = some (.fr (a ++ b)) := if_pos h
theorem l_idxD {x y d : D} (h : idxD x y = some d) : idxD x y = some d := h
theorem l_binD {o : BOp} {x y : D} {r : R} (h : binD o x y = some r) : binD o x y = some r := h
end Pm
local macro_rules | `(tactic| bv_omega) => `(tactic| first | omega | (simp only [List.length_cons, List.length_nil, List.length_append, List.length_take, List.length_drop, List.length_reverse, Pm.iL_len, Pm.SL]; omega))
local macro_rules | `(tactic| sizeOf_list_dec) => `(tactic| first
  | with_reducible assumption
  | ((with_reducible apply Pm.c_ltT); omega) | ((with_reducible apply Pm.c_ltF); omega) | with_reducible exact Pm.c_lt
  | ((with_reducible apply Pm.c_leT); omega) | ((with_reducible apply Pm.c_leF); omega) | with_reducible exact Pm.c_le
  | ((with_reducible apply Pm.c_gtT); omega) | ((with_reducible apply Pm.c_gtF); omega) | with_reducible exact Pm.c_gt
  | ((with_reducible apply Pm.c_geT); omega) | ((with_reducible apply Pm.c_geF); omega) | with_reducible exact Pm.c_ge
  | ((with_reducible apply Pm.c_eqT); omega) | ((with_reducible apply Pm.c_eqF); omega) | with_reducible exact Pm.c_eq
  | ((with_reducible apply Pm.c_neT); omega) | ((with_reducible apply Pm.c_neF); omega) | with_reducible exact Pm.c_ne
  | with_reducible exact Pm.c_eqsT rfl | with_reducible exact Pm.c_nesF rfl
  | ((with_reducible apply Pm.c_eqsT); assumption) | ((with_reducible apply Pm.c_nesF); assumption)
  | ((with_reducible apply Pm.c_eqsF); first | assumption | decide)
  | ((with_reducible apply Pm.c_nesT); first | assumption | decide)
  | exact Pm.cT rfl | exact Pm.cF rfl | with_reducible exact Pm.c_isn | with_reducible exact Pm.c_notn | with_reducible exact Pm.c_isb)
local macro_rules | `(tactic| array_mem_dec) => `(tactic| first
  | ((with_reducible apply Pm.l_rd); rfl) | ((with_reducible apply Pm.l_getR); rfl) | ((with_reducible apply Pm.l_asB); rfl)
  | (with_reducible ((repeat apply Pm.set_1); exact Pm.set_0))
  | (with_reducible first
     | assumption
     | exact Pm.p_lit | apply Pm.p_loc | apply Pm.p_cmp | apply Pm.p_idx | apply Pm.p_bin
     | apply Pm.p_and | apply Pm.p_or | apply Pm.p_not
     | exact Pm.p_nil | apply Pm.p_cons
     | exact Pm.k_andF | apply Pm.k_andT | apply Pm.k_and
     | exact Pm.k_orT | apply Pm.k_orF | apply Pm.k_or
     | exact Pm.k_cmpF | apply Pm.k_cmpT | apply Pm.k_cmp
     | apply Pm.k_ifT | apply Pm.k_ifF | apply Pm.k_iteT | apply Pm.k_iteF
     | apply Pm.k_nx | exact Pm.k_rt
     | exact Pm.q_nil | apply Pm.q_cons
     | apply Pm.q_set | apply Pm.q_ite | apply Pm.q_ret | apply Pm.q_par | apply Pm.q_unp
     | apply Pm.q_app | apply Pm.q_aug | apply Pm.q_frz | apply Pm.q_kill | apply Pm.q_sto | apply Pm.q_augs
     | apply Pm.q_exp | exact Pm.q_retn
     | exact Pm.sa_nil | apply Pm.sa_cons
     | apply Pm.b_one | apply Pm.b_tup | exact Pm.b_nil | apply Pm.b_cons
     | exact Pm.dr_nil | apply Pm.dr_v | apply Pm.dr_fr | apply Pm.dr_bl | apply Pm.dr_st
     | exact Pm.rs_nil | apply Pm.rs_v | apply Pm.rs_fr | apply Pm.rs_bo | apply Pm.rs_bl
     | exact Pm.ta_nil | apply Pm.ta_v | apply Pm.ta_fr | apply Pm.ta_bo | apply Pm.ta_src | apply Pm.ta_bl
     | apply Pm.fs_v | apply Pm.fs_s | apply Pm.fs_n | exact Pm.fr_0 | apply Pm.fr_1
     | exact Pm.ss_nil | apply Pm.ss_cons | exact Pm.cr_nil | apply Pm.cr_cons
     | exact Bool.not_true | exact Bool.not_false
     | exact Pm.add_int | exact Pm.sub_int | exact Pm.len_iLt | exact Pm.len_iLl
     | exact Pm.idx_0t | exact Pm.idx_0l | exact Pm.idx_1t | exact Pm.idx_1l
     | exact Pm.ki_nil | apply Pm.ki_cons | exact Pm.slots1 | exact Pm.slots2
     | apply Pm.p_bi | apply Pm.p_call | apply Pm.p_cmp2 | apply Pm.p_ife
     | apply Pm.p_tup | apply Pm.p_lst
     | apply Pm.p_sliB | apply Pm.p_sliA | apply Pm.p_sli
     | apply Pm.p_neg | apply Pm.p_enm | apply Pm.p_dof | apply Pm.p_zip | apply Pm.p_rev | apply Pm.p_star
     | apply Pm.p_met | apply Pm.p_dhas | apply Pm.p_dget | apply Pm.p_dget2
     | exact Pm.p_glo | exact Pm.p_nop | exact Pm.p_newk | apply Pm.p_sget | apply Pm.p_slen
     | apply Pm.p_rg1 | apply Pm.p_rg2)
  | ((with_reducible apply Pm.l_cmpD); sizeOf_list_dec)
  | ((with_reducible apply Pm.l_esc); rfl) | ((with_reducible apply Pm.l_itR); rfl) | ((with_reducible apply Pm.l_toS); rfl)
  | ((with_reducible apply Pm.l_retR); rfl) | ((with_reducible apply Pm.l_isOut); rfl) | ((with_reducible apply Pm.l_isNop); rfl)
  | ((with_reducible apply Pm.bo_no); rfl) | ((with_reducible apply Pm.bo_lf); first | rfl | assumption)
  | ((with_reducible apply Pm.l_src); rfl) | ((with_reducible apply Pm.l_lockOf); rfl) | ((with_reducible apply Pm.l_lk); rfl)
  | ((with_reducible apply Pm.l_ownL); rfl) | ((with_reducible apply Pm.l_isOwn); rfl) | ((with_reducible apply Pm.l_at); rfl)
  | ((with_reducible apply Pm.l_lt); bv_omega) | ((with_reducible apply Pm.l_le); bv_omega) | ((with_reducible apply Pm.l_lt'); bv_omega)
  | ((with_reducible apply Pm.l_biD); first | exact Pm.bT rfl | exact Pm.bF rfl | rfl)
  | ((with_reducible apply Pm.l_idxD); rfl) | ((with_reducible apply Pm.l_qnil); rfl) | ((with_reducible apply Pm.l_negD); rfl) | ((with_reducible apply Pm.l_revD); rfl) | ((with_reducible apply Pm.l_enD); rfl)
  | ((with_reducible apply Pm.add_tup); bv_omega) | ((with_reducible apply Pm.add_list); bv_omega) | ((with_reducible apply Pm.l_not); rfl)
  | with_reducible apply Pm.k_rt' | ((with_reducible apply Pm.l_eqR); rfl)
  | ((with_reducible apply Pm.fz_own); rfl) | exact Pm.fz_id rfl
  | ((with_reducible apply Pm.lr_v); rfl) | with_reducible exact Pm.ai_add | with_reducible exact Pm.ai_sub)
local macro_rules | `(tactic| array_get_dec) => `(tactic| repeat array_mem_dec)
namespace Pm
open PySem
/-! ### reprs of small values; draws -/
theorem showable_all {ds : List D} (h : ∀ d ∈ ds, d.showable = true) : PyData.showableAll ds = true := by
  induction ds with
  | nil => simp [PyData.showableAll]
  | cons d ds ih => simp [PyData.showableAll, h d List.mem_cons_self, ih fun x hx => h x (List.mem_cons_of_mem _ hx)]
theorem short_all {ds : List D} (h : ∀ d ∈ ds, d.leavesShort 13 = true) : PyData.leavesShortAll 13 ds = true := by
  induction ds with
  | nil => simp [PyData.leavesShortAll]
  | cons d ds ih => simp [PyData.leavesShortAll, h d List.mem_cons_self, ih fun x hx => h x (List.mem_cons_of_mem _ hx)]
theorem depth_all {ds : List D} {k : Nat} (h : ∀ d ∈ ds, d.depth ≤ k) : PyData.depthAll ds ≤ k := by
  induction ds with
  | nil => simp [PyData.depthAll]
  | cons d ds ih =>
    have h1 := h d List.mem_cons_self
    have h2 := ih fun x hx => h x (List.mem_cons_of_mem _ hx)
    simp only [PyData.depthAll]; omega
theorem weight_all {ds : List D} {k : Nat} (h : ∀ d ∈ ds, d.weight ≤ k) : PyData.weightAll ds ≤ (k + 1) * ds.length := by
  induction ds with
  | nil => simp [PyData.weightAll]
  | cons d ds ih =>
    have h1 := h d List.mem_cons_self
    have h2 := ih fun x hx => h x (List.mem_cons_of_mem _ hx)
    simp only [PyData.weightAll, List.length_cons, Nat.mul_add, Nat.mul_one]; omega
/-- small: no deeper than k, no heavier than w -/
def RB (k w : Nat) (d : D) : Prop := d.showable = true ∧ d.leavesShort 13 = true ∧ d.depth ≤ k ∧ d.weight ≤ w
theorem RB.mono {k w k' w' : Nat} {d : D} (h : RB k w d) (hk : k ≤ k') (hw : w ≤ w') : RB k' w' d := ⟨h.1, h.2.1, Nat.le_trans h.2.2.1 hk, Nat.le_trans h.2.2.2 hw⟩
theorem RB.ok {k w : Nat} {d : D} (h : RB k w d) (hk : k ≤ 64) (hw : w ≤ 1048576) : reprOk d = true := by
  obtain ⟨h1, h2, h3, h4⟩ := h
  unfold reprOk
  simp only [Bool.and_eq_true, decide_eq_true_eq]
  exact ⟨⟨⟨h1, by omega⟩, h2⟩, by omega⟩
theorem RB_of {k w : Nat} {d : D} (h : (d.showable && d.leavesShort 13 && decide (d.depth ≤ k) && decide (d.weight ≤ w)) = true) : RB k w d := by
  simp only [Bool.and_eq_true, decide_eq_true_eq] at h
  exact ⟨h.1.1.1, h.1.1.2, h.1.2, h.2⟩
theorem RB_tup {k w : Nat} {ds : List D} (h : ∀ d ∈ ds, RB k w d) : RB (k + 1) (2 + (w + 1) * ds.length) (.tuple ds) := by
  have hd := depth_all (ds := ds) (k := k) fun d hd => (h d hd).2.2.1
  have hw := weight_all (ds := ds) (k := w) fun d hd => (h d hd).2.2.2
  refine ⟨?_, ?_, by rw [PyData.depth]; omega, by rw [PyData.weight]; omega⟩
  · rw [PyData.showable]; exact showable_all fun d hd => (h d hd).1
  · rw [PyData.leavesShort]; exact short_all fun d hd => (h d hd).2.1
theorem RB_list {k w : Nat} {ds : List D} (h : ∀ d ∈ ds, RB k w d) : RB (k + 1) (2 + (w + 1) * ds.length) (.list ds) := by
  have hd := depth_all (ds := ds) (k := k) fun d hd => (h d hd).2.2.1
  have hw := weight_all (ds := ds) (k := w) fun d hd => (h d hd).2.2.2
  refine ⟨?_, ?_, by rw [PyData.depth]; omega, by rw [PyData.weight]; omega⟩
  · rw [PyData.showable]; exact showable_all fun d hd => (h d hd).1
  · rw [PyData.leavesShort]; exact short_all fun d hd => (h d hd).2.1
theorem RB_int {i : Int} (h : i.natAbs < 1073741824) : RB 0 31 (.int i) := by
  have h1 := reprOk_int h
  unfold reprOk at h1
  simp only [Bool.and_eq_true, decide_eq_true_eq] at h1
  have := weight_int h
  exact ⟨h1.1.1.1, h1.1.2, by simp [PyData.depth], by omega⟩
theorem RB.repr {k w : Nat} {d : D} (h : RB k w d) (hk : k ≤ 64) (hw : w ≤ 1048576) : biD .repr [d] = some (.v (.str d.shown)) := reprD_of (h.ok hk hw)
def unI : D → Int
  | .int i => i
  | _ => 0
theorem perm_iL {ys : List D} {row : List Int} (h : ys.Perm (iL row)) : ∃ late, ys = iL late ∧ late.Perm row := by
  refine ⟨ys.map unI, ?_, ?_⟩
  · unfold iL
    rw [List.map_map]
    have : ∀ y ∈ ys, (PyData.int ∘ unI) y = y := fun y hy => by
      obtain ⟨i, _, rfl⟩ := List.mem_map.mp (h.mem_iff.mp hy)
      rfl
    rw [List.map_congr_left this]
    simp
  · have := h.map unI
    unfold iL at this
    rw [List.map_map] at this
    have e : (unI ∘ PyData.int) = id := by funext i; rfl
    rw [e, List.map_id] at this
    exact this
/-- a comprehension of draws -/
theorem ev_lc_draw {elt : CE} {tg : TGt} {it : CE} {cond : List CE} {sl : List SV} {ss s1 : SS} {ds : List D} {P : Int → Prop} (hit : toI (ev it sl ss) = some (ds, s1)) (ok : SSok s1) (hl : ds.length ≤ SL)
    (hf : ∀ d ∈ ds, ∀ ss, SSok ss → ∃ r ss', lcB elt tg cond sl d ss = some (some (.int r), ss') ∧ SSok ss' ∧ P r) : ∃ rs s2, ev (.lc elt tg it cond) sl ss = some (.fr (iL rs), s2) ∧ SSok s2 ∧ rs.length = ds.length ∧ ∀ r ∈ rs, P r := by
  obtain ⟨rs, s2, e, ok2, h1, h2⟩ := lcD_draw hf s1 ok
  refine ⟨rs, s2, ?_, ok2, h1, h2⟩
  rw [ev_lc, hit]
  simp only [Option.bind_some, e]
  rw [if_pos hl]
/-- a for of pure turns -/
theorem forD_all {f : D → List SV → SS → Option Out} {I : List SV → Prop} {ss : SS} : ∀ {ds : List D} {sl : List SV}, I sl → (∀ d ∈ ds, ∀ sl, I sl → ∃ sl', f d sl ss = some (.nx sl' ss) ∧ I sl') → ∃ sl', forD f ds sl ss = some (.nx sl' ss) ∧ I sl'
  | [], sl, h, _ => ⟨sl, rfl, h⟩
  | d :: ds, sl, h, st => by
    obtain ⟨sl1, e1, h1⟩ := st d List.mem_cons_self sl h
    obtain ⟨sl2, e2, h2⟩ := forD_all h1 fun x hx => st x (List.mem_cons_of_mem _ hx)
    refine ⟨sl2, ?_, h2⟩
    unfold forD
    rw [e1]
    exact e2
/-- a member of a list, drawn -/
theorem ix_at {n : Nat} {r : Int} (h : 0 ≤ r ∧ r < (n : Int)) : L2.ixN n r = some r.toNat := by
  unfold L2.ixN
  first
    | (simp; omega)
    | (rw [if_neg (by omega)]; simp; omega)
    | (split <;> simp_all <;> omega)
theorem idx_at {ds : List D} {r : Int} (h : 0 ≤ r ∧ r < (ds.length : Int)) : ∃ d ∈ ds, idxD (.list ds) (.int r) = some d ∧ idxD (.tuple ds) (.int r) = some d := by
  have e : ixN ds.length r = some r.toNat := ix_at h
  have hr : r.toNat < ds.length := by omega
  refine ⟨ds[r.toNat], List.getElem_mem hr, ?_, ?_⟩ <;> (unfold idxD; simp only [e, Option.bind_some]; exact List.getElem?_eq_getElem hr)
theorem q_forO {t : TGt} {i : Nat} {body : List CS} {sl sl1 sl2 sl' : List SV} {ss s1 : SS} {xs : List D} (h : sl[i]? = some (.own xs)) (hs : sl.set i (.lock xs) = sl1) (hf : forD (fun d sl' ss' => (bindT t d sl').bind fun sl' => keptLocks [i] (exs body sl' ss')) xs sl1 ss = some (.nx sl2 s1)) (hu : sl2[i]? = some (.lock xs)) (hr : sl2.set i (.own xs) = sl') :
    ex (.forr t (.loc i) body) sl ss = some (.nx sl' s1) := by
  rw [x_forO h, hs, hf]
  simp only
  unfold unlockS
  rw [hu]
  simp only [hr]
theorem kept_nx {i : Nat} {sl : List SV} {ss : SS} (h : isLock sl i = true) : keptLocks [i] (some (.nx sl ss)) = some (.nx sl ss) := by
  unfold keptLocks
  simp [h]
theorem eq_bool (a b : Bool) : cmpD .eq (.bool a) (.bool b) = some (a == b) := by cases a <;> cases b <;> decide +kernel
theorem ne_bool (a b : Bool) : cmpD .ne (.bool a) (.bool b) = some (!(a == b)) := c_nq (eq_bool a b)
end Pm
/-! shallow code: what a core text computes, as plain functions of data, and the rules that link the two -/
namespace Pm
open PySem
/-! ### how a value stands in a result, in a slot -/
def canR : D → R
  | .list xs => .fr xs
  | d => .v d
def canB : D → R
  | .list xs => .bo xs
  | d => .v d
def canS : D → SV
  | .list xs => .own xs
  | d => .v d
def canL : D → SV
  | .list xs => .lock xs
  | d => .v d
def isL : D → Bool
  | .list _ => true
  | _ => false
class Rdm (m : D → R) : Prop where
  rd : ∀ d, rd (m d) = some d
  nl : ∀ d, isL d = false → m d = .v d
  a : ∀ d, toA (m d) = some (.v d)
class Esm (m : D → R) : Prop extends Rdm m where
  esc : ∀ d, esc (m d) = some d
  nb : ∀ d, isBo (m d) = false
  out : ∀ d, isOut (m d) = true
instance : Rdm R.v := ⟨fun _ => rfl, fun _ _ => rfl, fun _ => rfl⟩
instance : Esm R.v where
  esc := fun _ => rfl
  nb := fun _ => rfl
  out := fun _ => rfl
theorem nlB {d : D} (h : isL d = false) : canB d = .v d := by cases d <;> first | rfl | cases h
theorem nlR {d : D} (h : isL d = false) : canR d = .v d := by cases d <;> first | rfl | cases h
instance : Rdm canR := ⟨fun d => by cases d <;> rfl, fun d h => nlR h, fun d => by cases d <;> rfl⟩
instance : Esm canR where
  esc := fun d => by cases d <;> rfl
  nb := fun d => by cases d <;> rfl
  out := fun d => by cases d <;> rfl
instance : Rdm canB := ⟨fun d => by cases d <;> rfl, fun d h => nlB h, fun d => by cases d <;> rfl⟩
inductive Pt where
  | j | v (d : D) | c (d : D) | l (d : D) | s | k (kvs : List (L2.Key × D))
def Ms : Pt → SV → Prop
  | .j, _ => True
  | .v d, s => s = .v d
  | .c d, s => s = canS d
  | .l d, s => s = canL d
  | .s, s => s = .src
  | .k kvs, s => s = .dk kvs
def Mt : List Pt → List SV → Prop
  | [], sl => sl = []
  | p :: ps, sl => ∃ s r, sl = s :: r ∧ Ms p s ∧ Mt ps r
class Stm (m : D → R) (p : outParam (D → Pt)) : Prop where
  st : ∀ d, ∃ s, toS (m d) = some s ∧ Ms (p d) s
instance : Stm R.v Pt.v := ⟨fun d => ⟨_, rfl, rfl⟩⟩
instance : Stm canR Pt.c := ⟨fun d => by cases d <;> exact ⟨_, rfl, rfl⟩⟩
class Rtm (m : D → R) (m' : outParam (D → R)) : Prop where
  rt : ∀ d, retR (m d) = some (m' d)
instance : Rtm R.v R.v := ⟨fun _ => rfl⟩
instance : Rtm canR canR := ⟨fun d => by cases d <;> rfl⟩
instance : Rtm canB canR := ⟨fun d => by cases d <;> rfl⟩
theorem Mt.get : ∀ {ps : List Pt} {sl : List SV} {i : Nat} {p : Pt}, Mt ps sl → ps[i]? = some p → ∃ s, sl[i]? = some s ∧ Ms p s
  | [], _, i, p, _, e => by simp at e
  | q :: ps, sl, 0, p, ⟨s, r, h, m, _⟩, e => by
    rw [h]; simp at e; subst e; exact ⟨s, rfl, m⟩
  | q :: ps, sl, i + 1, p, ⟨s, r, h, m, t⟩, e => by
    rw [h]; simp only [List.getElem?_cons_succ] at e ⊢; exact Mt.get t e
theorem Mt.set : ∀ {ps : List Pt} {sl : List SV} {i : Nat} {p : Pt} {s : SV}, Mt ps sl → Ms p s → Mt (ps.set i p) (sl.set i s)
  | [], sl, i, p, s, h, _ => by cases h; exact rfl
  | q :: ps, sl, 0, p, s, ⟨s', r, h, m, t⟩, e => by rw [h]; exact ⟨s, r, rfl, e, t⟩
  | q :: ps, sl, i + 1, p, s, ⟨s', r, h, m, t⟩, e => by rw [h]; exact ⟨s', _, rfl, m, Mt.set t e⟩
theorem Mt.len : ∀ {ps : List Pt} {sl : List SV}, Mt ps sl → sl.length = ps.length
  | [], sl, h => by cases h; rfl
  | q :: ps, sl, ⟨s, r, h, m, t⟩ => by rw [h]; simp [Mt.len t]
theorem Mt.lt {ps : List Pt} {sl : List SV} {i : Nat} (h : Mt ps sl) (hi : i < ps.length) : i < sl.length := by rw [h.len]; exact hi
inductive Wkn : List Pt → List Pt → Prop
  | nil : Wkn [] []
  | j {p ps qs} : Wkn ps qs → Wkn (p :: ps) (.j :: qs)
  | e {p ps qs} : Wkn ps qs → Wkn (p :: ps) (p :: qs)
theorem Wkn.refl : ∀ ps, Wkn ps ps
  | [] => .nil
  | _ :: ps => .e (Wkn.refl ps)
theorem Wkn.mt : ∀ {ps qs : List Pt} {sl : List SV}, Wkn ps qs → Mt ps sl → Mt qs sl
  | _, _, sl, .nil, h => h
  | _, _, sl, .j w, ⟨s, r, h, m, t⟩ => ⟨s, r, h, trivial, w.mt t⟩
  | _, _, sl, .e w, ⟨s, r, h, m, t⟩ => ⟨s, r, h, m, w.mt t⟩
/-- a def's call: its slots at the start -/
def startP (n : Nat) (as : List D) : List Pt := as.map .v ++ List.replicate n .j
theorem mt_rep : ∀ n, Mt (List.replicate n .j) (List.replicate n SV.un)
  | 0 => rfl
  | n + 1 => ⟨_, _, rfl, trivial, mt_rep n⟩
theorem mt_start : ∀ (as : List D) (n : Nat), Mt (startP n as) ((as.map AV.v).map AV.sv ++ List.replicate n .un)
  | [], n => mt_rep n
  | a :: as, n => ⟨_, _, rfl, rfl, mt_start as n⟩
/-! ### expressions -/
def PE (m : D → R) (e : CE) (ps : List Pt) (o : Option D) : Prop := ∀ d, o = some d → ∀ sl, Mt ps sl → ∀ ss, ev e sl ss = some (m d, ss)
/-- no list comes -/
def PN (e : CE) (ps : List Pt) (o : Option D) : Prop := ∀ d, o = some d → isL d = false ∧ ∀ sl, Mt ps sl → ∀ ss, ev e sl ss = some (.v d, ss)
def PB (e : CE) (ps : List Pt) (o : Option Bool) : Prop := ∀ b, o = some b → ∀ sl, Mt ps sl → ∀ ss, ev e sl ss = some (bl b, ss)
def PI (e : CE) (ps : List Pt) (o : Option (List D)) : Prop := ∀ xs, o = some xs → ∀ sl, Mt ps sl → ∀ ss, toI (ev e sl ss) = some (xs, ss)
section
variable {m m1 m2 m3 : D → R} {e a b c it elt : CE} {ps qs : List Pt} {o oa ob oc : Option D} {oi : Option (List D)} {i j k n : Nat} {d : D}
theorem PE.toD [Rdm m] (h : PE m e ps o) {d} (hd : o = some d) {sl} (hm : Mt ps sl) (ss) : toD (ev e sl ss) = some (d, ss) := by
  rw [h d hd sl hm ss]; simp [Pm.toD, O.f, Rdm.rd]
theorem PE.toE [Esm m] (h : PE m e ps o) {d} (hd : o = some d) {sl} (hm : Mt ps sl) (ss) : toE (ev e sl ss) = some (d, ss) := by
  rw [h d hd sl hm ss]; simp [Pm.toE, O.f, Esm.esc]
theorem PB.toB {o : Option Bool} (h : PB e ps o) {d} (hd : o = some d) {sl} (hm : Mt ps sl) (ss) : toB (ev e sl ss) = some (d, ss) := by
  rw [h d hd sl hm ss]; rfl
theorem PN.pe (m : D → R) [Rdm m] (h : PN e ps o) : PE m e ps o := fun d hd sl hm ss => by
  obtain ⟨h1, h2⟩ := h d hd
  rw [h2 sl hm ss, Rdm.nl (m := m) d h1]
theorem PB.pn {o : Option Bool} (h : PB e ps o) : PN e ps (o.map .bool) := fun d hd => by
  obtain ⟨b, hb, rfl⟩ := Option.map_eq_some_iff.mp hd
  exact ⟨rfl, fun sl hm ss => h b hb sl hm ss⟩
def boolS : D → Option Bool
  | .bool b => some b
  | _ => none
theorem PE.pb [Rdm m] (h : PE m e ps o) : PB e ps (o.bind boolS) := fun b hb sl hm ss => by
  obtain ⟨d, hd, hb⟩ := Option.bind_eq_some_iff.mp hb
  cases d <;> simp [boolS] at hb
  subst hb
  rw [h _ hd sl hm ss, Rdm.nl (m := m) _ rfl]; rfl
theorem PE.pi [Rdm m] (h : PE m e ps o) : PI e ps (o.bind seqOf) := fun xs hx sl hm ss => by
  obtain ⟨d, hd, hb⟩ := Option.bind_eq_some_iff.mp hx
  rw [h _ hd sl hm ss]
  cases d <;> simp [seqOf] at hb <;> subst hb
  · have := Rdm.rd (m := m) (.list ‹_›)
    cases q : m (.list ‹_›) <;> rw [q] at this <;> simp [rd] at this <;> simp [toI, O.f, itR, rd, seqOf, this]
  · have := Rdm.rd (m := m) (.tuple ‹_›)
    cases q : m (.tuple ‹_›) <;> rw [q] at this <;> simp [rd] at this <;> simp [toI, O.f, itR, rd, seqOf, this]
theorem pe_glo (x : Str) (d : D) : PE .v (.glo x d) ps (some d) := fun _ h _ _ _ => by cases h; rfl
theorem pn_lit (h : isL d = false) : PN (.lit d) ps (some d) := fun _ q => by cases q; exact ⟨h, fun _ _ _ => rfl⟩
theorem pn_glo {x : Str} (h : isL d = false) : PN (.glo x d) ps (some d) := fun _ q => by cases q; exact ⟨h, fun _ _ _ => rfl⟩
theorem pe_v (h : ps[i]? = some (.v d)) : PE .v (.loc i) ps (some d) := fun _ q sl hm ss => by
  cases q
  obtain ⟨s, e, r⟩ := hm.get h
  cases r
  simp [ev, getR, e, slR]
theorem pe_c (h : ps[i]? = some (.c d)) : PE canB (.loc i) ps (some d) := fun _ q sl hm ss => by
  cases q
  obtain ⟨s, e, r⟩ := hm.get h
  cases r
  cases d <;> simp [ev, getR, e, slR, canS, canB]
theorem pe_l (h : ps[i]? = some (.l d)) : PE canB (.loc i) ps (some d) := fun _ q sl hm ss => by
  cases q
  obtain ⟨s, e, r⟩ := hm.get h
  cases r
  cases d <;> simp [ev, getR, e, slR, canL, canB]
def binS (o : BOp) (x y : D) : Option D := (binD o x y).bind rd
theorem binS_ok {o : BOp} {x y d : D} (h : binS o x y = some d) : binD o x y = some (canR d) := by
  unfold binS at h
  obtain ⟨r, hr, hd⟩ := Option.bind_eq_some_iff.mp h
  rw [hr]
  congr 1
  have key : (∃ d, r = .v d ∧ isL d = false) ∨ ∃ xs, r = .fr xs := by
    revert hr
    cases o <;> simp only [binD]
    · unfold addD; split <;> intro hr <;> (try (split at hr)) <;> cases hr <;> first | exact .inl ⟨_, rfl, rfl⟩ | exact .inr ⟨_, rfl⟩
    · unfold subD; split <;> intro hr <;> cases hr; exact .inl ⟨_, rfl, rfl⟩
    · unfold mulD; split <;> intro hr <;> (try (split at hr)) <;> cases hr <;> first | exact .inl ⟨_, rfl, rfl⟩ | exact .inr ⟨_, rfl⟩
    · unfold fdivD; split <;> intro hr <;> (try (split at hr)) <;> cases hr; exact .inl ⟨_, rfl, rfl⟩
    · unfold modD; split <;> intro hr <;> (try (split at hr)) <;> cases hr; exact .inl ⟨_, rfl, rfl⟩
    · unfold powD; split <;> intro hr <;> (try (split at hr)) <;> cases hr; exact .inl ⟨_, rfl, rfl⟩
  rcases key with ⟨d', rfl, hl⟩ | ⟨xs, rfl⟩
  · cases hd; exact (nlR hl).symm
  · cases hd; rfl
theorem pe_bin {op : BOp} [Rdm m1] [Rdm m2] (h1 : PE m1 a ps oa) (h2 : PE m2 b ps ob) : PE canR (.bin op a b) ps (oa.bind fun x => ob.bind fun y => binS op x y) := fun d q sl hm ss => by
  obtain ⟨x, hx, q⟩ := Option.bind_eq_some_iff.mp q
  obtain ⟨y, hy, q⟩ := Option.bind_eq_some_iff.mp q
  rw [e_bin, h1.toD hx hm]
  simp only [Option.bind_some, h2.toD hy hm, binS_ok q, Option.map_some]
/-- numbers alone -/
def numB : BOp → Bool
  | .add | .mul => false
  | _ => true
theorem numB_nl {op : BOp} (h : numB op = true) {x y d : D} (q : binS op x y = some d) : isL d = false := by
  unfold binS at q
  cases op <;> simp only [numB] at h <;> (try (exact absurd h (by decide))) <;> simp only [binD] at q
  · unfold subD at q; split at q <;> simp [rd] at q; subst q; rfl
  · unfold fdivD at q; split at q <;> (try (split at q)) <;> simp [rd] at q; subst q; rfl
  · unfold modD at q; split at q <;> (try (split at q)) <;> simp [rd] at q; subst q; rfl
  · unfold powD at q; split at q <;> (try (split at q)) <;> simp [rd] at q; subst q; rfl
theorem pn_bin {op : BOp} [Rdm m1] [Rdm m2] (hn : numB op = true) (h1 : PE m1 a ps oa) (h2 : PE m2 b ps ob) : PN (.bin op a b) ps (oa.bind fun x => ob.bind fun y => binS op x y) := fun d q => by
  have h := pe_bin (op := op) h1 h2 d q
  obtain ⟨x, hx, q⟩ := Option.bind_eq_some_iff.mp q
  obtain ⟨y, hy, q⟩ := Option.bind_eq_some_iff.mp q
  have nl := numB_nl hn q
  refine ⟨nl, fun sl hm ss => ?_⟩
  rw [h sl hm ss, nlR nl]
def negS : D → Option D
  | .int i => some (.int (-i))
  | _ => none
theorem pn_neg [Rdm m] (h : PE m a ps oa) : PN (.neg a) ps (oa.bind negS) := fun d q => by
  obtain ⟨x, hx, q⟩ := Option.bind_eq_some_iff.mp q
  cases x <;> simp [negS] at q
  subst q
  exact ⟨rfl, fun sl hm ss => by show (toD (ev a sl ss)).f negD = _; rw [h.toD hx hm]; rfl⟩
variable {pa pb pc : Option Bool}
theorem pb_not (h : PB a ps pa) : PB (.not a) ps (pa.map (!·)) := fun d q sl hm ss => by
  obtain ⟨x, hx, rfl⟩ := Option.map_eq_some_iff.mp q
  rw [e_not, h.toB hx hm]; rfl
theorem pb_and (h1 : PB a ps pa) (h2 : PB b ps pb) : PB (.and a b) ps (pa.bind fun x => if x then pb else some false) := fun d q sl hm ss => by
  obtain ⟨x, hx, q⟩ := Option.bind_eq_some_iff.mp q
  rw [e_and, h1.toB hx hm]
  cases x with
  | false => cases q; rfl
  | true => simp only [Option.bind_some, if_true, h2.toB q hm]
theorem pb_or (h1 : PB a ps pa) (h2 : PB b ps pb) : PB (.or a b) ps (pa.bind fun x => if x then some true else pb) := fun d q sl hm ss => by
  obtain ⟨x, hx, q⟩ := Option.bind_eq_some_iff.mp q
  rw [e_or, h1.toB hx hm]
  cases x with
  | true => cases q; rfl
  | false => simp only [if_neg Bool.false_ne_true] at q; simp only [Option.bind_some, if_neg Bool.false_ne_true, h2.toB q hm]
theorem pb_cmp {op : COp} [Rdm m1] [Rdm m2] (h1 : PE m1 a ps oa) (h2 : PE m2 b ps ob) : PB (.cmp op a b) ps (oa.bind fun x => ob.bind fun y => cmpD op x y) := fun d q sl hm ss => by
  obtain ⟨x, hx, q⟩ := Option.bind_eq_some_iff.mp q
  obtain ⟨y, hy, q⟩ := Option.bind_eq_some_iff.mp q
  rw [e_cmp, h1.toD hx hm]
  simp only [Option.bind_some, h2.toD hy hm, q, Option.map_some]
theorem pb_cmp2 {op op' : COp} [Rdm m1] [Rdm m2] [Rdm m3] (h1 : PE m1 a ps oa) (h2 : PE m2 b ps ob) (h3 : PE m3 c ps oc) :
    PB (.cmp2 op op' a b c) ps (oa.bind fun x => ob.bind fun y => (cmpD op x y).bind fun r => if r then oc.bind fun z => cmpD op' y z else some false) := fun d q sl hm ss => by
  obtain ⟨x, hx, q⟩ := Option.bind_eq_some_iff.mp q
  obtain ⟨y, hy, q⟩ := Option.bind_eq_some_iff.mp q
  obtain ⟨r, hr, q⟩ := Option.bind_eq_some_iff.mp q
  rw [e_cmp2, h1.toD hx hm]
  simp only [Option.bind_some, h2.toD hy hm, hr]
  cases r with
  | false => cases q; rfl
  | true =>
    simp only [if_true] at q ⊢
    obtain ⟨z, hz, q⟩ := Option.bind_eq_some_iff.mp q
    simp only [h3.toD hz hm, Option.bind_some, q, Option.map_some]
theorem pe_ife (h1 : PB c ps pc) (h2 : PE m a ps oa) (h3 : PE m b ps ob) : PE m (.ife c a b) ps (pc.bind fun x => if x then oa else ob) := fun d q sl hm ss => by
  obtain ⟨x, hx, q⟩ := Option.bind_eq_some_iff.mp q
  rw [e_ife, h1.toB hx hm]
  cases x with
  | true => exact h2 _ q sl hm ss
  | false => exact h3 _ q sl hm ss
theorem pn_ife (h1 : PB c ps pc) (h2 : PN a ps oa) (h3 : PN b ps ob) : PN (.ife c a b) ps (pc.bind fun x => if x then oa else ob) := fun d q => by
  have h := pe_ife h1 (h2.pe .v) (h3.pe .v) d q
  obtain ⟨x, hx, q⟩ := Option.bind_eq_some_iff.mp q
  cases x with
  | true => exact ⟨(h2 _ q).1, h⟩
  | false => exact ⟨(h3 _ q).1, h⟩
theorem pb_ife (h1 : PB c ps pc) (h2 : PB a ps pa) (h3 : PB b ps pb) : PB (.ife c a b) ps (pc.bind fun x => if x then pa else pb) := fun d q sl hm ss => by
  obtain ⟨x, hx, q⟩ := Option.bind_eq_some_iff.mp q
  rw [e_ife, h1.toB hx hm]
  cases x with
  | true => exact h2 _ q sl hm ss
  | false => exact h3 _ q sl hm ss
/-! displays -/
def PX (es : List CE) (ps : List Pt) (o : Option (List D)) : Prop := ∀ ds, o = some ds → ∀ sl, Mt ps sl → ∀ ss, ∃ rs, evs es sl ss = some (rs, ss) ∧ dispR rs = some ds
variable {es : List CE} {oes : Option (List D)}
theorem px_nil : PX [] ps (some []) := fun _ q _ _ _ => by cases q; exact ⟨[], rfl, rfl⟩
theorem dispR_cons {r : R} {rs : List R} {d : D} {ds : List D} (h : esc r = some d) (h2 : dispR rs = some ds) : dispR (r :: rs) = some (d :: ds) := by
  cases r <;> simp [esc] at h <;> simp [dispR, esc, h, h2]
theorem px_cons [Esm m] (h1 : PE m e ps o) (h2 : PX es ps oes) : PX (e :: es) ps (o.bind fun x => oes.bind fun xs => some (x :: xs)) := fun ds q sl hm ss => by
  obtain ⟨x, hx, q⟩ := Option.bind_eq_some_iff.mp q
  obtain ⟨xs, hxs, q⟩ := Option.bind_eq_some_iff.mp q
  cases q
  obtain ⟨rs, r1, r2⟩ := h2 xs hxs sl hm ss
  refine ⟨m x :: rs, ?_, dispR_cons (Esm.esc x) r2⟩
  rw [es_cons, h1 x hx sl hm ss]
  simp only [Option.bind_some, r1]
theorem px_star (h1 : PI e ps oi) (h2 : PX es ps oes) : PX (.star e :: es) ps (oi.bind fun x => oes.bind fun xs => some (x ++ xs)) := fun ds q sl hm ss => by
  obtain ⟨x, hx, q⟩ := Option.bind_eq_some_iff.mp q
  obtain ⟨xs, hxs, q⟩ := Option.bind_eq_some_iff.mp q
  cases q
  obtain ⟨rs, r1, r2⟩ := h2 xs hxs sl hm ss
  refine ⟨.st x :: rs, ?_, by simp [dispR, r2]⟩
  rw [es_cons, e_star, h1 x hx sl hm ss]
  simp only [Option.bind_some, r1]
def shortS (xs : List D) : Option (List D) := if xs.length ≤ SL then some xs else none
theorem PX.tox (h : PX es ps oes) {ds : List D} (q : oes.bind shortS = some ds) {sl} (hm : Mt ps sl) (ss) : toX (evs es sl ss) = some (ds, ss) := by
  obtain ⟨x, hx, q⟩ := Option.bind_eq_some_iff.mp q
  unfold shortS at q
  split at q
  · cases q
    obtain ⟨rs, r1, r2⟩ := h _ hx sl hm ss
    rename_i hc
    rw [r1]
    simp only [toX, O.f, r2, Option.bind_some, Option.map_some, if_pos hc]
  · cases q
theorem pn_tup (h : PX es ps oes) : PN (.tup es) ps ((oes.bind shortS).map .tuple) := fun d q => by
  obtain ⟨x, hx, rfl⟩ := Option.map_eq_some_iff.mp q
  refine ⟨rfl, fun sl hm ss => ?_⟩
  rw [e_tup, h.tox hx hm]; rfl
theorem pe_lst (h : PX es ps oes) : PE canR (.lst es) ps ((oes.bind shortS).map .list) := fun d q sl hm ss => by
  obtain ⟨x, hx, rfl⟩ := Option.map_eq_some_iff.mp q
  rw [e_lst, h.tox hx hm]; rfl
/-! few members, no star -/
def PS (es : List CE) (ps : List Pt) (o : Option (List D)) : Prop := ∀ ds, o = some ds → ds.length = es.length ∧ ∀ sl, Mt ps sl → ∀ ss, ∃ rs, evs es sl ss = some (rs, ss) ∧ dispR rs = some ds
theorem pss_nil' : PS [] ps (some []) := fun _ q => by cases q; exact ⟨rfl, fun _ _ _ => ⟨[], rfl, rfl⟩⟩
theorem pss_cons' [Esm m] (h1 : PE m e ps o) (h2 : PS es ps oes) : PS (e :: es) ps (o.bind fun x => oes.bind fun xs => some (x :: xs)) := fun ds q => by
  have h := px_cons h1 (fun ds q => (h2 ds q).2) ds q
  obtain ⟨x, hx, q⟩ := Option.bind_eq_some_iff.mp q
  obtain ⟨xs, hxs, q⟩ := Option.bind_eq_some_iff.mp q
  cases q
  exact ⟨by simp [(h2 xs hxs).1], h⟩
theorem pn_tupS (hl : es.length ≤ SL) (h : PS es ps oes) : PN (.tup es) ps (oes.map .tuple) := fun d q => by
  obtain ⟨x, hx, rfl⟩ := Option.map_eq_some_iff.mp q
  obtain ⟨h1, h2⟩ := h x hx
  refine ⟨rfl, fun sl hm ss => ?_⟩
  obtain ⟨rs, r1, r2⟩ := h2 sl hm ss
  rw [e_tup, r1]
  simp [toX, O.f, r2, h1, hl]
theorem pe_lstS (hl : es.length ≤ SL) (h : PS es ps oes) : PE canR (.lst es) ps (oes.map .list) := fun d q sl hm ss => by
  obtain ⟨x, hx, rfl⟩ := Option.map_eq_some_iff.mp q
  obtain ⟨h1, h2⟩ := h x hx
  obtain ⟨rs, r1, r2⟩ := h2 sl hm ss
  rw [e_lst, r1]
  simp [toX, O.f, r2, h1, hl, canR]
/-! parts -/
theorem pe_idx [Rdm m1] [Rdm m2] (h1 : PE m1 a ps oa) (h2 : PE m2 b ps ob) : PE .v (.idx a b) ps (oa.bind fun x => ob.bind fun y => idxD x y) := fun d q sl hm ss => by
  obtain ⟨x, hx, q⟩ := Option.bind_eq_some_iff.mp q
  obtain ⟨y, hy, q⟩ := Option.bind_eq_some_iff.mp q
  rw [e_idx, h1.toD hx hm]
  simp only [Option.bind_some, h2.toD hy hm, q, Option.map_some]
def intS : D → Option D
  | .int i => some (.int i)
  | _ => none
def sliS (x lo hi : D) : Option D := (sliD x lo hi).bind rd
theorem sliS_ok {x lo hi d : D} (h : sliS x lo hi = some d) : sliD x lo hi = some (canR d) := by
  unfold sliS at h
  obtain ⟨r, hr, hd⟩ := Option.bind_eq_some_iff.mp h
  rw [hr]; congr 1
  unfold sliD at hr
  split at hr
  · obtain ⟨ys, _, rfl⟩ := Option.map_eq_some_iff.mp hr; cases hd; rfl
  · obtain ⟨ys, _, rfl⟩ := Option.map_eq_some_iff.mp hr; cases hd; rfl
  · cases hr
/-- a part of a slice -/
def PP (e : CE) (ps : List Pt) (o : Option D) : Prop := ∀ d, o = some d → ∀ sl, Mt ps sl → ∀ ss, toP e (ev e sl ss) = some (d, ss)
theorem pp_nop : PP .nop ps (some .none) := fun _ q _ _ _ => by cases q; rfl
theorem pp_e [Rdm m] (hn : isNop e = false) (h : PE m e ps o) : PP e ps (o.bind intS) := fun d q sl hm ss => by
  obtain ⟨x, hx, q⟩ := Option.bind_eq_some_iff.mp q
  cases x <;> simp [intS] at q
  subst q
  rw [h _ hx sl hm ss]
  simp [toP, hn, O.f, rdInt, Rdm.rd]
theorem pe_sli [Rdm m] (h1 : PE m a ps oa) (h2 : PP b ps ob) (h3 : PP c ps oc) : PE canR (.sli a b c) ps (oa.bind fun x => ob.bind fun y => oc.bind fun z => sliS x y z) := fun d q sl hm ss => by
  obtain ⟨x, hx, q⟩ := Option.bind_eq_some_iff.mp q
  obtain ⟨y, hy, q⟩ := Option.bind_eq_some_iff.mp q
  obtain ⟨z, hz, q⟩ := Option.bind_eq_some_iff.mp q
  rw [e_sli, h1.toD hx hm]
  simp only [Option.bind_some, h2 y hy sl hm, h3 z hz sl hm, sliS_ok q, Option.map_some]
def revS (x : D) : Option D := (revD x).bind rd
theorem pe_rev [Rdm m] (h1 : PE m a ps oa) : PE canR (.rev a) ps (oa.bind revS) := fun d q sl hm ss => by
  obtain ⟨x, hx, q⟩ := Option.bind_eq_some_iff.mp q
  rw [e_rev, h1.toD hx hm]
  unfold revS revD at q
  split at q <;> simp [rd] at q <;> subst q <;> rfl
/-! builtins -/
def PD (es : List CE) (ps : List Pt) (o : Option (List D)) : Prop := ∀ ds, o = some ds → ∀ sl, Mt ps sl → ∀ ss, toDs (evs es sl ss) = some (ds, ss)
theorem rds_cons {r : R} {rs : List R} {d : D} {ds : List D} (h : rd r = some d) (h2 : rds rs = some ds) : rds (r :: rs) = some (d :: ds) := by simp [rds, h, h2]
theorem pd1 [Rdm m] (h : PE m a ps oa) : PD [a] ps (oa.bind fun x => some [x]) := fun ds q sl hm ss => by
  obtain ⟨x, hx, q⟩ := Option.bind_eq_some_iff.mp q
  cases q
  rw [es_cons, h x hx sl hm ss]
  simp [es_nil, toDs, O.f, rds, Rdm.rd]
theorem pd2 [Rdm m1] [Rdm m2] (h : PE m1 a ps oa) (h2 : PE m2 b ps ob) : PD [a, b] ps (oa.bind fun x => ob.bind fun y => some [x, y]) := fun ds q sl hm ss => by
  obtain ⟨x, hx, q⟩ := Option.bind_eq_some_iff.mp q
  obtain ⟨y, hy, q⟩ := Option.bind_eq_some_iff.mp q
  cases q
  rw [es_cons, h x hx sl hm ss]
  simp only [Option.bind_some]
  rw [es_cons, h2 y hy sl hm ss]
  simp [es_nil, toDs, O.f, rds, Rdm.rd]
def biS (f : Bi) (ds : List D) : Option D := (biD f ds).bind rd
/-- builtins that give no list -/
def nlBi : Bi → Bool
  | .list | .sorted => false
  | _ => true
theorem bi_can {f : Bi} {ds : List D} {r : R} (h : biD f ds = some r) : (∃ d, r = .v d ∧ isL d = false) ∨ ∃ xs, r = .fr xs ∧ nlBi f = false := by
  cases f <;> simp only [biD] at h
  case len => unfold lenD at h; split at h <;> cases h <;> exact .inl ⟨_, rfl, rfl⟩
  case int => unfold intD at h; split at h <;> cases h <;> exact .inl ⟨_, rfl, rfl⟩
  case abs => unfold absD at h; split at h <;> cases h <;> exact .inl ⟨_, rfl, rfl⟩
  case max2 => unfold max2D at h; split at h <;> cases h <;> exact .inl ⟨_, rfl, rfl⟩
  case min2 => unfold min2D at h; split at h <;> cases h <;> exact .inl ⟨_, rfl, rfl⟩
  case max1 => unfold max1D at h; split at h <;> (try (split at h)) <;> cases h <;> exact .inl ⟨_, rfl, rfl⟩
  case min1 => unfold min1D at h; split at h <;> (try (split at h)) <;> cases h <;> exact .inl ⟨_, rfl, rfl⟩
  case sum => unfold sumD at h; split at h <;> (try (obtain ⟨x, _, rfl⟩ := Option.map_eq_some_iff.mp h)) <;> (try cases h) <;> exact .inl ⟨_, rfl, rfl⟩
  case all => unfold allD at h; split at h <;> (try (obtain ⟨x, _, rfl⟩ := Option.map_eq_some_iff.mp h)) <;> (try cases h) <;> exact .inl ⟨_, rfl, rfl⟩
  case any => unfold anyD at h; split at h <;> (try (obtain ⟨x, _, rfl⟩ := Option.map_eq_some_iff.mp h)) <;> (try cases h) <;> exact .inl ⟨_, rfl, rfl⟩
  case list => unfold listD at h; split at h <;> (try (obtain ⟨x, _, rfl⟩ := Option.map_eq_some_iff.mp h)) <;> (try cases h) <;> exact .inr ⟨_, rfl, rfl⟩
  case tuple => unfold tupleD at h; split at h <;> (try (obtain ⟨x, _, rfl⟩ := Option.map_eq_some_iff.mp h)) <;> (try cases h) <;> exact .inl ⟨_, rfl, rfl⟩
  case sorted =>
    unfold sortedD at h; split at h
    · obtain ⟨x, _, h⟩ := Option.bind_eq_some_iff.mp h
      split at h <;> cases h; exact .inr ⟨_, rfl, rfl⟩
    · cases h
  case repr => unfold reprD at h; split at h <;> (try (split at h)) <;> cases h <;> exact .inl ⟨_, rfl, rfl⟩
  case isint => unfold isTD at h; split at h <;> cases h <;> exact .inl ⟨_, rfl, rfl⟩
  case isbool => unfold isTD at h; split at h <;> cases h <;> exact .inl ⟨_, rfl, rfl⟩
  case istuple => unfold isTD at h; split at h <;> cases h <;> exact .inl ⟨_, rfl, rfl⟩
  case isstr => unfold isTD at h; split at h <;> cases h <;> exact .inl ⟨_, rfl, rfl⟩
  case islist => unfold isTD at h; split at h <;> cases h <;> exact .inl ⟨_, rfl, rfl⟩
  all_goals cases h
theorem biS_ok {f : Bi} {ds : List D} {d : D} (h : biS f ds = some d) : biD f ds = some (canR d) ∧ (nlBi f = true → isL d = false) := by
  unfold biS at h
  obtain ⟨r, hr, hd⟩ := Option.bind_eq_some_iff.mp h
  rw [hr]
  rcases bi_can hr with ⟨d', rfl, hl⟩ | ⟨xs, rfl, hn⟩
  · cases hd; exact ⟨by rw [nlR hl], fun _ => hl⟩
  · cases hd; exact ⟨rfl, fun z => by rw [hn] at z; cases z⟩
theorem pe_bi {f : Bi} (h : PD es ps oes) : PE canR (.bi f es) ps (oes.bind (biS f)) := fun d q sl hm ss => by
  obtain ⟨x, hx, q⟩ := Option.bind_eq_some_iff.mp q
  rw [e_bi, h x hx sl hm ss]
  simp [O.f, (biS_ok q).1]
theorem pn_bi {f : Bi} (hn : nlBi f = true) (h : PD es ps oes) : PN (.bi f es) ps (oes.bind (biS f)) := fun d q => by
  have h' := pe_bi (f := f) h d q
  obtain ⟨x, hx, q⟩ := Option.bind_eq_some_iff.mp q
  have nl := (biS_ok q).2 hn
  exact ⟨nl, fun sl hm ss => by rw [h' sl hm ss, nlR nl]⟩
theorem pn_bi1 {f : Bi} [Rdm m] (hn : nlBi f = true) (h : PE m a ps oa) : PN (.bi f [a]) ps (oa.bind fun x => biS f [x]) := by
  have := pn_bi hn (pd1 h)
  rw [Option.bind_assoc] at this
  exact this
theorem pe_bi1 {f : Bi} [Rdm m] (h : PE m a ps oa) : PE canR (.bi f [a]) ps (oa.bind fun x => biS f [x]) := by
  have := pe_bi (f := f) (pd1 h)
  rw [Option.bind_assoc] at this
  exact this
theorem pn_bi2 {f : Bi} [Rdm m1] [Rdm m2] (hn : nlBi f = true) (h : PE m1 a ps oa) (h2 : PE m2 b ps ob) : PN (.bi f [a, b]) ps (oa.bind fun x => ob.bind fun y => biS f [x, y]) := by
  have := pn_bi hn (pd2 h h2)
  rw [Option.bind_assoc] at this
  refine fun d q => this d ?_
  rw [← q]
  congr 1
  funext x
  rw [Option.bind_assoc]
  rfl
def isOf (f : Bi) (x : D) : Option Bool := match f with
  | .isint => some (isT "int" x)
  | .isbool => some (isT "bool" x)
  | .istuple => some (isT "tuple" x)
  | .isstr => some (isT "str" x)
  | .islist => some (isT "list" x)
  | _ => none
theorem pb_is {f : Bi} [Rdm m] (h : PE m a ps oa) : PB (.bi f [a]) ps (oa.bind (isOf f)) := fun d q sl hm ss => by
  obtain ⟨x, hx, q⟩ := Option.bind_eq_some_iff.mp q
  have := pe_bi1 (f := f) h
  cases f <;> simp [isOf] at q <;> subst q <;> exact this (.bool _) (by rw [hx]; rfl) sl hm ss
def allS (f : Bi) (x : D) : Option Bool := match f, x with
  | .all, .list xs => (boolsL xs).map fun bs => bs.all id
  | .any, .list xs => (boolsL xs).map fun bs => bs.any id
  | _, _ => none
theorem pb_all {f : Bi} [Rdm m] (h : PE m a ps oa) : PB (.bi f [a]) ps (oa.bind (allS f)) := fun d q sl hm ss => by
  obtain ⟨x, hx, q⟩ := Option.bind_eq_some_iff.mp q
  have := pe_bi1 (f := f) h
  unfold allS at q
  split at q
  · obtain ⟨y, hy, rfl⟩ := Option.map_eq_some_iff.mp q
    exact this (.bool _) (by rw [hx]; simp [biS, biD, allD, hy, rd]) sl hm ss
  · obtain ⟨y, hy, rfl⟩ := Option.map_eq_some_iff.mp q
    exact this (.bool _) (by rw [hx]; simp [biS, biD, anyD, hy, rd]) sl hm ss
  · cases q
def meS (f : Me) (x y : D) : Option D := (meD f x [y]).bind rd
theorem me_can {f : Me} {x : D} {ds : List D} {r : R} (h : meD f x ds = some r) : ∃ i, r = .v (.int i) := by
  unfold meD at h
  split at h
  · split at h
    · obtain ⟨w, hw, rfl⟩ := Option.map_eq_some_iff.mp h; exact ⟨_, rfl⟩
    · cases h
  · split at h
    · cases h; exact ⟨_, rfl⟩
    · cases h
  · cases h
theorem pn_met {f : Me} [Rdm m1] [Rdm m2] (h : PE m1 a ps oa) (h2 : PE m2 b ps ob) : PN (.met f a [b]) ps (oa.bind fun x => ob.bind fun y => meS f x y) := fun d q => by
  obtain ⟨x, hx, q⟩ := Option.bind_eq_some_iff.mp q
  obtain ⟨y, hy, q⟩ := Option.bind_eq_some_iff.mp q
  unfold meS at q
  obtain ⟨r, hr, q⟩ := Option.bind_eq_some_iff.mp q
  obtain ⟨i, rfl⟩ := me_can hr
  cases q
  refine ⟨rfl, fun sl hm ss => ?_⟩
  have e1 := pd1 h2 [y] (by rw [hy]; rfl) sl hm ss
  rw [e_met, h.toD hx hm]
  simp only [Option.bind_some, e1, hr, Option.map_some]
/-! what a for walks -/
@[irreducible] def rg1S : D → Option (List D)
  | .int i => if -4611686018427387904 ≤ i ∧ i ≤ 16777216 then some (rangeD 0 i) else none
  | _ => none
@[irreducible] def rg2S : D → D → Option (List D)
  | .int i, .int j => if (-4611686018427387904 ≤ i ∧ i < 4611686018427387904 ∧ -4611686018427387904 ≤ j ∧ j < 4611686018427387904) ∧ j - i ≤ 16777216 then some (rangeD i j) else none
  | _, _ => none
theorem pi_rgA [Rdm m] (h : PE m a ps oa) : PI (.rg1 a) ps (oa.bind rg1S) := fun d q sl hm ss => by
  obtain ⟨x, hx, q⟩ := Option.bind_eq_some_iff.mp q
  rw [e_rg1, h.toD hx hm]
  cases x <;> simp only [rg1S] at q <;> (try (cases q; done))
  split at q
  · cases q; simp [O.f, rg1D, toI, itR, *]
  · cases q
theorem pi_rgB [Rdm m1] [Rdm m2] (h : PE m1 a ps oa) (h2 : PE m2 b ps ob) : PI (.rg2 a b) ps (oa.bind fun x => ob.bind fun y => rg2S x y) := fun d q sl hm ss => by
  obtain ⟨x, hx, q⟩ := Option.bind_eq_some_iff.mp q
  obtain ⟨y, hy, q⟩ := Option.bind_eq_some_iff.mp q
  rw [e_rg2, h.toD hx hm]
  simp only [Option.bind_some, h2.toD hy hm]
  unfold rg2S at q
  split at q
  · split at q
    case isTrue hc =>
      cases q
      simp only [rg2D, if_pos hc, Option.map_some, toI, O.f, itR, Option.bind_some]
    case isFalse => cases q
  · cases q
def enS (x : D) : Option (List D) := (seqOf x).map enumD
theorem pi_enm [Rdm m] (h : PE m a ps oa) : PI (.enm a) ps (oa.bind enS) := fun d q sl hm ss => by
  obtain ⟨x, hx, q⟩ := Option.bind_eq_some_iff.mp q
  rw [e_enm, h.toD hx hm]
  unfold enS at q
  obtain ⟨z, hz, rfl⟩ := Option.map_eq_some_iff.mp q
  cases x <;> simp [seqOf] at hz <;> subst hz <;> rfl
def zipS (x y : D) : Option (List D) := (seqOf x).bind fun xs => (seqOf y).map fun ys => xs.zipWith (fun x y => .tuple [x, y]) ys
theorem pi_zip [Rdm m1] [Rdm m2] (h : PE m1 a ps oa) (h2 : PE m2 b ps ob) : PI (.zip a b) ps (oa.bind fun x => ob.bind fun y => zipS x y) := fun d q sl hm ss => by
  obtain ⟨x, hx, q⟩ := Option.bind_eq_some_iff.mp q
  obtain ⟨y, hy, q⟩ := Option.bind_eq_some_iff.mp q
  rw [e_zip, h.toD hx hm]
  simp only [Option.bind_some, h2.toD hy hm]
  unfold zipS at q
  obtain ⟨z, hz, q⟩ := Option.bind_eq_some_iff.mp q
  obtain ⟨w, hw, rfl⟩ := Option.map_eq_some_iff.mp q
  simp [zipD, hz, hw, toI, O.f, itR]
end
end Pm
/-! comprehensions, calls, dicts, statements -/
namespace Pm
open PySem
/-! ### targets -/
def un2 {α : Type} (d : D) (f : D → D → Option α) : Option α := match d with
  | .tuple [x, y] => f x y
  | _ => none
def un3 {α : Type} (d : D) (f : D → D → D → Option α) : Option α := match d with
  | .tuple [x, y, z] => f x y z
  | _ => none
def un4 {α : Type} (d : D) (f : D → D → D → D → Option α) : Option α := match d with
  | .tuple [x, y, z, w] => f x y z w
  | _ => none
theorem un2_ok {α : Type} {d : D} {f : D → D → Option α} {r : α} (h : un2 d f = some r) : ∃ x y, d = .tuple [x, y] ∧ f x y = some r := by
  unfold un2 at h; split at h
  · exact ⟨_, _, rfl, h⟩
  · cases h
theorem un3_ok {α : Type} {d : D} {f : D → D → D → Option α} {r : α} (h : un3 d f = some r) : ∃ x y z, d = .tuple [x, y, z] ∧ f x y z = some r := by
  unfold un3 at h; split at h
  · exact ⟨_, _, _, rfl, h⟩
  · cases h
theorem un4_ok {α : Type} {d : D} {f : D → D → D → D → Option α} {r : α} (h : un4 d f = some r) : ∃ x y z w, d = .tuple [x, y, z, w] ∧ f x y z w = some r := by
  unfold un4 at h; split at h
  · exact ⟨_, _, _, _, rfl, h⟩
  · cases h
def BT (t : TGt) (d : D) (ps qs : List Pt) : Prop := ∀ sl, Mt ps sl → ∃ sl', bindT t d sl = some sl' ∧ Mt qs sl'
def BTs (ts : List TGt) (ds : List D) (ps qs : List Pt) : Prop := ∀ sl, Mt ps sl → ∃ sl', bindTs ts ds sl = some sl' ∧ Mt qs sl'
def killP : List Nat → List Pt → List Pt
  | [], ps => ps
  | j :: js, ps => (killP js ps).set j .j
theorem kill_mt : ∀ {js : List Nat} {ps : List Pt} {sl : List SV}, Mt ps sl → Mt (killP js ps) (killS js sl)
  | [], _, _, h => h
  | j :: js, _, _, h => (kill_mt (js := js) h).set trivial
section
variable {m m1 m2 m3 m4 m5 m6 : D → R} {e a b c a1 a2 a3 a4 a5 a6 it elt : CE} {ps qs rs : List Pt} {o oa ob oc o1 o2 o3 o4 o5 o6 : Option D} {oi : Option (List D)} {i j k n : Nat} {d : D} {t : TGt} {ts : List TGt} {ds : List D} {pc : Option Bool}
theorem bt_one (h : i < ps.length) : BT (.one i) d ps (ps.set i (.v d)) := fun sl hm => by
  refine ⟨sl.set i (.v d), ?_, hm.set rfl⟩
  unfold bindT setS
  rw [if_pos (hm.lt h)]
theorem bts_nil : BTs [] [] ps ps := fun sl hm => ⟨sl, rfl, hm⟩
theorem bts_cons (h1 : BT t d ps qs) (h2 : BTs ts ds qs rs) : BTs (t :: ts) (d :: ds) ps rs := fun sl hm => by
  obtain ⟨s1, e1, m1⟩ := h1 sl hm
  obtain ⟨s2, e2, m2⟩ := h2 s1 m1
  exact ⟨s2, by unfold bindTs; rw [e1]; exact e2, m2⟩
theorem bt_tup (h : BTs ts ds ps qs) : BT (.tup ts) (.tuple ds) ps qs := fun sl hm => by
  obtain ⟨s1, e1, m1⟩ := h sl hm
  exact ⟨s1, by unfold bindT; exact e1, m1⟩
/-! ### comprehensions -/
def CE1 (t : TGt) (d : D) (ps : List Pt) (e : CE) (o : Option D) : Prop := ∀ y, o = some y → ∀ sl, Mt ps sl → ∃ sl', bindT t d sl = some sl' ∧ ∀ ss, toE (ev e sl' ss) = some (y, ss)
def CC1 (t : TGt) (d : D) (ps : List Pt) (e : CE) (o : Option Bool) : Prop := ∀ y, o = some y → ∀ sl, Mt ps sl → ∃ sl', bindT t d sl = some sl' ∧ ∀ ss, toC (evs [e] sl' ss) = some (y, ss)
theorem ce_bt [Esm m] (h1 : BT t d ps qs) (h2 : PE m e qs o) : CE1 t d ps e o := fun y hy sl hm => by
  obtain ⟨s1, e1, m1⟩ := h1 sl hm
  exact ⟨s1, e1, fun ss => h2.toE hy m1 ss⟩
theorem cc_bt (h1 : BT t d ps qs) (h2 : PB e qs pc) : CC1 t d ps e pc := fun y hy sl hm => by
  obtain ⟨s1, e1, m1⟩ := h1 sl hm
  exact ⟨s1, e1, fun ss => by rw [es_cons, h2 y hy s1 m1 ss]; rfl⟩
theorem ce_un2 {k : D → D → Option D} (h : ∀ x y, CE1 t (.tuple [x, y]) ps e (k x y)) : CE1 t d ps e (un2 d k) := fun y hy => by
  obtain ⟨x, z, rfl, hy⟩ := un2_ok hy; exact h x z y hy
theorem cc_un2 {k : D → D → Option Bool} (h : ∀ x y, CC1 t (.tuple [x, y]) ps e (k x y)) : CC1 t d ps e (un2 d k) := fun y hy => by
  obtain ⟨x, z, rfl, hy⟩ := un2_ok hy; exact h x z y hy
theorem ce_un3 {k : D → D → D → Option D} (h : ∀ x y z, CE1 t (.tuple [x, y, z]) ps e (k x y z)) : CE1 t d ps e (un3 d k) := fun y hy => by
  obtain ⟨x, z, w, rfl, hy⟩ := un3_ok hy; exact h x z w y hy
theorem cc_un3 {k : D → D → D → Option Bool} (h : ∀ x y z, CC1 t (.tuple [x, y, z]) ps e (k x y z)) : CC1 t d ps e (un3 d k) := fun y hy => by
  obtain ⟨x, z, w, rfl, hy⟩ := un3_ok hy; exact h x z w y hy
theorem ce_un4 {k : D → D → D → D → Option D} (h : ∀ x y z w, CE1 t (.tuple [x, y, z, w]) ps e (k x y z w)) : CE1 t d ps e (un4 d k) := fun y hy => by
  obtain ⟨x, z, w, v, rfl, hy⟩ := un4_ok hy; exact h x z w v y hy
theorem cc_un4 {k : D → D → D → D → Option Bool} (h : ∀ x y z w, CC1 t (.tuple [x, y, z, w]) ps e (k x y z w)) : CC1 t d ps e (un4 d k) := fun y hy => by
  obtain ⟨x, z, w, v, rfl, hy⟩ := un4_ok hy; exact h x z w v y hy
def mapL (g : D → Option D) : List D → Option (List D)
  | [] => some []
  | d :: ds => (g d).bind fun y => (mapL g ds).bind fun ys => some (y :: ys)
def filL (c : D → Option Bool) (g : D → Option D) : List D → Option (List D)
  | [] => some []
  | d :: ds => (c d).bind fun b => if b then (g d).bind fun y => (filL c g ds).bind fun ys => some (y :: ys) else filL c g ds
def mapS (g : D → Option D) (xs : List D) : Option (List D) := if xs.length ≤ SL then mapL g xs else none
def filS (c : D → Option Bool) (g : D → Option D) (xs : List D) : Option (List D) := if xs.length ≤ SL then filL c g xs else none
theorem pe_lc0 {g : D → Option D} (hi : PI it ps oi) (h : ∀ d, CE1 t d (killP t.slots ps) elt (g d)) : PE canR (.lc elt t it []) ps ((oi.bind (mapS g)).map .list) := fun d q sl hm ss => by
  obtain ⟨ys, q1, rfl⟩ := Option.map_eq_some_iff.mp q
  obtain ⟨xs, hx, q⟩ := Option.bind_eq_some_iff.mp q1
  unfold mapS at q
  split at q
  case isFalse => cases q
  case isTrue hl =>
    rw [ev_lc, hi xs hx sl hm ss]
    simp only [Option.bind_some, if_pos hl]
    have key : ∀ (xs ys : List D), mapL g xs = some ys → lcD (lcB elt t [] sl) xs ss = some (ys, ss) := by
      intro xs
      induction xs with
      | nil => intro ys q; cases q; rfl
      | cons d ds ih =>
        intro ys q
        unfold mapL at q
        obtain ⟨y, hy, q⟩ := Option.bind_eq_some_iff.mp q
        obtain ⟨r, hr, q⟩ := Option.bind_eq_some_iff.mp q
        cases q
        obtain ⟨s1, e1, k1⟩ := h d y hy _ (kill_mt hm)
        have : lcB elt t [] sl d ss = some (some y, ss) := by
          unfold lcB
          rw [e1]
          simp only [Option.bind_some, es_nil, toC, O.f, condR, Option.map_some, if_true, k1 ss]
        unfold lcD
        rw [this]
        simp only [ih _ hr, Option.map_some]
    rw [key _ _ q]
    rfl
theorem pe_lc1 {f : D → Option Bool} {g : D → Option D} (hi : PI it ps oi) (hc : ∀ d, CC1 t d (killP t.slots ps) c (f d)) (h : ∀ d, CE1 t d (killP t.slots ps) elt (g d)) : PE canR (.lc elt t it [c]) ps ((oi.bind (filS f g)).map .list) := fun d q sl hm ss => by
  obtain ⟨ys, q1, rfl⟩ := Option.map_eq_some_iff.mp q
  obtain ⟨xs, hx, q⟩ := Option.bind_eq_some_iff.mp q1
  unfold filS at q
  split at q
  case isFalse => cases q
  case isTrue hl =>
    rw [ev_lc, hi xs hx sl hm ss]
    simp only [Option.bind_some, if_pos hl]
    have key : ∀ (xs ys : List D), filL f g xs = some ys → lcD (lcB elt t [c] sl) xs ss = some (ys, ss) := by
      intro xs
      induction xs with
      | nil => intro ys q; cases q; rfl
      | cons d ds ih =>
        intro ys q
        unfold filL at q
        obtain ⟨b, hb, q⟩ := Option.bind_eq_some_iff.mp q
        obtain ⟨s2, e2, k2⟩ := hc d b hb _ (kill_mt hm)
        cases b with
        | false =>
          simp only [Bool.false_eq_true, if_false] at q
          have : lcB elt t [c] sl d ss = some (none, ss) := by
            unfold lcB
            rw [e2]
            simp only [Option.bind_some, k2 ss, Bool.false_eq_true, if_false]
          unfold lcD
          rw [this]
          exact ih _ q
        | true =>
          simp only [if_true] at q
          obtain ⟨y, hy, q⟩ := Option.bind_eq_some_iff.mp q
          obtain ⟨r, hr, q⟩ := Option.bind_eq_some_iff.mp q
          cases q
          obtain ⟨s1, e1, k1⟩ := h d y hy _ (kill_mt hm)
          rw [e1] at e2
          cases e2
          have : lcB elt t [c] sl d ss = some (some y, ss) := by
            unfold lcB
            rw [e1]
            simp only [Option.bind_some, k2 ss, if_true, k1 ss]
          unfold lcD
          rw [this]
          simp only [ih _ hr, Option.map_some]
    rw [key _ _ q]
    rfl
/-! ### calls -/
theorem pe_call0 {nm : Str} {F : Fn} {g : Option D} [Esm m] (hF : ∀ d, g  = some d → ∀ ss, F [] ss = some (m d, ss)) : PE m (.call nm F []) ps (g) := fun d q sl hm ss => by
  rw [e_call]
  simp only [es_cons, es_nil, Option.bind_some, callD, toAs, Rdm.a, Option.map_some, hF  d q, Esm.out, Esm.nb, List.any_cons, List.any_nil, Bool.or_self, Bool.false_eq_true, false_implies, and_self, if_true]
theorem pe_call1 {nm : Str} {F : Fn} {g : D → Option D} [Esm m] [Esm m1] (hF : ∀ x1 d, g x1 = some d → ∀ ss, F [.v x1] ss = some (m d, ss)) (h1 : PE m1 a1 ps o1) : PE m (.call nm F [a1]) ps (o1.bind fun x1 => g x1) := fun d q sl hm ss => by
  obtain ⟨x1, hx1, q⟩ := Option.bind_eq_some_iff.mp q
  rw [e_call]
  simp only [es_cons, es_nil, Option.bind_some, h1 x1 hx1 sl hm, callD, toAs, Rdm.a, Option.map_some, hF x1 d q, Esm.out, Esm.nb, List.any_cons, List.any_nil, Bool.or_self, Bool.false_eq_true, false_implies, and_self, if_true]
theorem pe_call2 {nm : Str} {F : Fn} {g : D → D → Option D} [Esm m] [Esm m1] [Esm m2] (hF : ∀ x1 x2 d, g x1 x2 = some d → ∀ ss, F [.v x1, .v x2] ss = some (m d, ss)) (h1 : PE m1 a1 ps o1) (h2 : PE m2 a2 ps o2) : PE m (.call nm F [a1, a2]) ps (o1.bind fun x1 => o2.bind fun x2 => g x1 x2) := fun d q sl hm ss => by
  obtain ⟨x1, hx1, q⟩ := Option.bind_eq_some_iff.mp q
  obtain ⟨x2, hx2, q⟩ := Option.bind_eq_some_iff.mp q
  rw [e_call]
  simp only [es_cons, es_nil, Option.bind_some, h1 x1 hx1 sl hm, h2 x2 hx2 sl hm, callD, toAs, Rdm.a, Option.map_some, hF x1 x2 d q, Esm.out, Esm.nb, List.any_cons, List.any_nil, Bool.or_self, Bool.false_eq_true, false_implies, and_self, if_true]
theorem pe_call3 {nm : Str} {F : Fn} {g : D → D → D → Option D} [Esm m] [Esm m1] [Esm m2] [Esm m3] (hF : ∀ x1 x2 x3 d, g x1 x2 x3 = some d → ∀ ss, F [.v x1, .v x2, .v x3] ss = some (m d, ss)) (h1 : PE m1 a1 ps o1) (h2 : PE m2 a2 ps o2) (h3 : PE m3 a3 ps o3) : PE m (.call nm F [a1, a2, a3]) ps (o1.bind fun x1 => o2.bind fun x2 => o3.bind fun x3 => g x1 x2 x3) := fun d q sl hm ss => by
  obtain ⟨x1, hx1, q⟩ := Option.bind_eq_some_iff.mp q
  obtain ⟨x2, hx2, q⟩ := Option.bind_eq_some_iff.mp q
  obtain ⟨x3, hx3, q⟩ := Option.bind_eq_some_iff.mp q
  rw [e_call]
  simp only [es_cons, es_nil, Option.bind_some, h1 x1 hx1 sl hm, h2 x2 hx2 sl hm, h3 x3 hx3 sl hm, callD, toAs, Rdm.a, Option.map_some, hF x1 x2 x3 d q, Esm.out, Esm.nb, List.any_cons, List.any_nil, Bool.or_self, Bool.false_eq_true, false_implies, and_self, if_true]
theorem pe_call4 {nm : Str} {F : Fn} {g : D → D → D → D → Option D} [Esm m] [Esm m1] [Esm m2] [Esm m3] [Esm m4] (hF : ∀ x1 x2 x3 x4 d, g x1 x2 x3 x4 = some d → ∀ ss, F [.v x1, .v x2, .v x3, .v x4] ss = some (m d, ss)) (h1 : PE m1 a1 ps o1) (h2 : PE m2 a2 ps o2) (h3 : PE m3 a3 ps o3) (h4 : PE m4 a4 ps o4) : PE m (.call nm F [a1, a2, a3, a4]) ps (o1.bind fun x1 => o2.bind fun x2 => o3.bind fun x3 => o4.bind fun x4 => g x1 x2 x3 x4) := fun d q sl hm ss => by
  obtain ⟨x1, hx1, q⟩ := Option.bind_eq_some_iff.mp q
  obtain ⟨x2, hx2, q⟩ := Option.bind_eq_some_iff.mp q
  obtain ⟨x3, hx3, q⟩ := Option.bind_eq_some_iff.mp q
  obtain ⟨x4, hx4, q⟩ := Option.bind_eq_some_iff.mp q
  rw [e_call]
  simp only [es_cons, es_nil, Option.bind_some, h1 x1 hx1 sl hm, h2 x2 hx2 sl hm, h3 x3 hx3 sl hm, h4 x4 hx4 sl hm, callD, toAs, Rdm.a, Option.map_some, hF x1 x2 x3 x4 d q, Esm.out, Esm.nb, List.any_cons, List.any_nil, Bool.or_self, Bool.false_eq_true, false_implies, and_self, if_true]
theorem pe_call5 {nm : Str} {F : Fn} {g : D → D → D → D → D → Option D} [Esm m] [Esm m1] [Esm m2] [Esm m3] [Esm m4] [Esm m5] (hF : ∀ x1 x2 x3 x4 x5 d, g x1 x2 x3 x4 x5 = some d → ∀ ss, F [.v x1, .v x2, .v x3, .v x4, .v x5] ss = some (m d, ss)) (h1 : PE m1 a1 ps o1) (h2 : PE m2 a2 ps o2) (h3 : PE m3 a3 ps o3) (h4 : PE m4 a4 ps o4) (h5 : PE m5 a5 ps o5) : PE m (.call nm F [a1, a2, a3, a4, a5]) ps (o1.bind fun x1 => o2.bind fun x2 => o3.bind fun x3 => o4.bind fun x4 => o5.bind fun x5 => g x1 x2 x3 x4 x5) := fun d q sl hm ss => by
  obtain ⟨x1, hx1, q⟩ := Option.bind_eq_some_iff.mp q
  obtain ⟨x2, hx2, q⟩ := Option.bind_eq_some_iff.mp q
  obtain ⟨x3, hx3, q⟩ := Option.bind_eq_some_iff.mp q
  obtain ⟨x4, hx4, q⟩ := Option.bind_eq_some_iff.mp q
  obtain ⟨x5, hx5, q⟩ := Option.bind_eq_some_iff.mp q
  rw [e_call]
  simp only [es_cons, es_nil, Option.bind_some, h1 x1 hx1 sl hm, h2 x2 hx2 sl hm, h3 x3 hx3 sl hm, h4 x4 hx4 sl hm, h5 x5 hx5 sl hm, callD, toAs, Rdm.a, Option.map_some, hF x1 x2 x3 x4 x5 d q, Esm.out, Esm.nb, List.any_cons, List.any_nil, Bool.or_self, Bool.false_eq_true, false_implies, and_self, if_true]
theorem pe_call6 {nm : Str} {F : Fn} {g : D → D → D → D → D → D → Option D} [Esm m] [Esm m1] [Esm m2] [Esm m3] [Esm m4] [Esm m5] [Esm m6] (hF : ∀ x1 x2 x3 x4 x5 x6 d, g x1 x2 x3 x4 x5 x6 = some d → ∀ ss, F [.v x1, .v x2, .v x3, .v x4, .v x5, .v x6] ss = some (m d, ss)) (h1 : PE m1 a1 ps o1) (h2 : PE m2 a2 ps o2) (h3 : PE m3 a3 ps o3) (h4 : PE m4 a4 ps o4) (h5 : PE m5 a5 ps o5) (h6 : PE m6 a6 ps o6) : PE m (.call nm F [a1, a2, a3, a4, a5, a6]) ps (o1.bind fun x1 => o2.bind fun x2 => o3.bind fun x3 => o4.bind fun x4 => o5.bind fun x5 => o6.bind fun x6 => g x1 x2 x3 x4 x5 x6) := fun d q sl hm ss => by
  obtain ⟨x1, hx1, q⟩ := Option.bind_eq_some_iff.mp q
  obtain ⟨x2, hx2, q⟩ := Option.bind_eq_some_iff.mp q
  obtain ⟨x3, hx3, q⟩ := Option.bind_eq_some_iff.mp q
  obtain ⟨x4, hx4, q⟩ := Option.bind_eq_some_iff.mp q
  obtain ⟨x5, hx5, q⟩ := Option.bind_eq_some_iff.mp q
  obtain ⟨x6, hx6, q⟩ := Option.bind_eq_some_iff.mp q
  rw [e_call]
  simp only [es_cons, es_nil, Option.bind_some, h1 x1 hx1 sl hm, h2 x2 hx2 sl hm, h3 x3 hx3 sl hm, h4 x4 hx4 sl hm, h5 x5 hx5 sl hm, h6 x6 hx6 sl hm, callD, toAs, Rdm.a, Option.map_some, hF x1 x2 x3 x4 x5 x6 d q, Esm.out, Esm.nb, List.any_cons, List.any_nil, Bool.or_self, Bool.false_eq_true, false_implies, and_self, if_true]
/-! ### dicts -/
theorem dk_at {kvs} (h : ps[i]? = some (.k kvs)) {sl} (hm : Mt ps sl) : dkAt sl i = some kvs := by
  obtain ⟨s, e, r⟩ := hm.get h
  cases r
  unfold dkAt
  rw [e]
theorem pb_dhas {kvs} {q : Bool} [Rdm m] (h : PE m a ps oa) (hk : ps[i]? = some (.k kvs)) : PB (.dhas q a i) ps (oa.bind fun x => (keyOf x).map fun k => (kGet kvs k).isSome == q) := fun d q sl hm ss => by
  obtain ⟨x, hx, q⟩ := Option.bind_eq_some_iff.mp q
  obtain ⟨k, hk2, rfl⟩ := Option.map_eq_some_iff.mp q
  rw [e_dhas, h.toD hx hm]
  simp [O.f, dhasD, dk_at hk hm, hk2]
theorem pe_dget {kvs} [Rdm m] (h : PE m a ps oa) (hk : ps[i]? = some (.k kvs)) : PE .v (.dget i a) ps (oa.bind fun x => (keyOf x).bind fun k => kGet kvs k) := fun d q sl hm ss => by
  obtain ⟨x, hx, q⟩ := Option.bind_eq_some_iff.mp q
  obtain ⟨k, hk2, q⟩ := Option.bind_eq_some_iff.mp q
  rw [e_dget, h.toD hx hm]
  simp [O.f, dgetD, dk_at hk hm, hk2, q]
theorem pe_dget2 {kvs} [Rdm m1] [Esm m2] (h : PE m1 a ps oa) (h2 : PE m2 b ps ob) (hk : ps[i]? = some (.k kvs)) : PE .v (.dget2 i a b) ps (oa.bind fun x => ob.bind fun y => (keyOf x).map fun k => (kGet kvs k).getD y) := fun d q sl hm ss => by
  obtain ⟨x, hx, q⟩ := Option.bind_eq_some_iff.mp q
  obtain ⟨y, hy, q⟩ := Option.bind_eq_some_iff.mp q
  obtain ⟨k, hk2, rfl⟩ := Option.map_eq_some_iff.mp q
  rw [e_dget2, h.toD hx hm]
  simp only [Option.bind_some, h2.toE hy hm, dget2D, dk_at hk hm, hk2, Option.map_some]
def dofS (s : Bool) (x : D) : Option D := (dofD s x).bind rd
theorem dof_can {s : Bool} {x : D} {r : R} (h : dofD s x = some r) : ∃ d, r = canR d ∧ (s = false → isL d = false) := by
  unfold dofD at h
  split at h
  · obtain ⟨ks, _, h⟩ := Option.bind_eq_some_iff.mp h
    cases s with
    | false => cases h; exact ⟨.int _, rfl, fun _ => rfl⟩
    | true =>
      obtain ⟨is, _, h⟩ := Option.bind_eq_some_iff.mp h
      split at h
      · cases h; exact ⟨.list _, rfl, fun z => by cases z⟩
      · cases h
  · cases h
theorem pe_dof {s : Bool} [Rdm m] (h : PE m a ps oa) : PE canR (.dof s a) ps (oa.bind (dofS s)) := fun d q sl hm ss => by
  obtain ⟨x, hx, q⟩ := Option.bind_eq_some_iff.mp q
  unfold dofS at q
  obtain ⟨r, hr, q⟩ := Option.bind_eq_some_iff.mp q
  obtain ⟨d', rfl, _⟩ := dof_can hr
  rw [Rdm.rd] at q
  cases q
  rw [e_dof, h.toD hx hm]
  simp [O.f, hr]
theorem pn_dof [Rdm m] (h : PE m a ps oa) : PN (.dof false a) ps (oa.bind (dofS false)) := fun d q => by
  have h' := pe_dof (s := false) h d q
  obtain ⟨x, hx, q⟩ := Option.bind_eq_some_iff.mp q
  unfold dofS at q
  obtain ⟨r, hr, q⟩ := Option.bind_eq_some_iff.mp q
  obtain ⟨d', rfl, nl⟩ := dof_can hr
  rw [Rdm.rd] at q
  cases q
  exact ⟨nl rfl, fun sl hm ss => by rw [h' sl hm ss, nlR (nl rfl)]⟩
end
end Pm
/-! statements -/
namespace Pm
open PySem
inductive Fl (σ : Type) where
  | nx (s : σ) | rt (d : D)
variable {σ τ : Type}
def FlOk (x : SS → Option Out) (post : σ → List Pt) (mr : D → R) : Fl σ → Prop
  | .nx st => ∃ sl', (∀ ss, x ss = some (.nx sl' ss)) ∧ Mt (post st) sl'
  | .rt d => ∀ ss, x ss = some (.rt (mr d) ss)
def TS (c : CS) (ps : List Pt) (o : Option (Fl σ)) (post : σ → List Pt) (mr : D → R) : Prop := ∀ fl, o = some fl → ∀ sl, Mt ps sl → FlOk (fun ss => ex c sl ss) post mr fl
def TL (cs : List CS) (ps : List Pt) (o : Option (Fl σ)) (post : σ → List Pt) (mr : D → R) : Prop := ∀ fl, o = some fl → ∀ sl, Mt ps sl → FlOk (fun ss => exs cs sl ss) post mr fl
def NS (c : CS) (ps : List Pt) (o : Option σ) (post : σ → List Pt) : Prop := ∀ st, o = some st → ∀ sl, Mt ps sl → ∃ sl', (∀ ss, ex c sl ss = some (.nx sl' ss)) ∧ Mt (post st) sl'
def NL (cs : List CS) (ps : List Pt) (o : Option σ) (post : σ → List Pt) : Prop := ∀ st, o = some st → ∀ sl, Mt ps sl → ∃ sl', (∀ ss, exs cs sl ss = some (.nx sl' ss)) ∧ Mt (post st) sl'
section
variable {m m1 m2 m3 mr : D → R} {p p1 p2 p3 : D → Pt} {e a b c a1 a2 a3 it elt kc : CE} {ps qs rs : List Pt} {o oa ob oc oe ok : Option D} {oi : Option (List D)} {i j k n : Nat} {d x y : D} {t : TGt} {pc : Option Bool} {cs ds : List CS} {s : CS} {post mid : σ → List Pt}
theorem seq_nx {sl sl' : List SV} {ss ss' : SS} (h : ex s sl ss = some (.nx sl' ss')) : exs (s :: cs) sl ss = exs cs sl' ss' := exs_nx h
theorem fl_cons {sl sl' : List SV} {fl : Fl σ} (h : ∀ ss, ex s sl ss = some (.nx sl' ss)) (k : FlOk (fun ss => exs cs sl' ss) post mr fl) : FlOk (fun ss => exs (s :: cs) sl ss) post mr fl := by
  have e : (fun ss => exs (s :: cs) sl ss) = fun ss => exs cs sl' ss := funext fun ss => seq_nx (h ss)
  rw [e]; exact k
theorem tl_nil {st : σ} (w : Wkn ps (post st)) : TL [] ps (some (.nx st)) post mr := fun fl h sl hm => by
  cases h; exact ⟨sl, fun _ => rfl, w.mt hm⟩
theorem nl_nil {st : σ} (w : Wkn ps (post st)) : NL [] ps (some st) post := fun fl h sl hm => by
  cases h; exact ⟨sl, fun ss => rfl, w.mt hm⟩
theorem tl_nx {mid : τ → List Pt} {o : Option τ} {f : τ → Option (Fl σ)} (h1 : NS s ps o mid) (h2 : ∀ st, TL cs (mid st) (f st) post mr) : TL (s :: cs) ps (o.bind f) post mr := fun fl h sl hm => by
  obtain ⟨st, hst, h⟩ := Option.bind_eq_some_iff.mp h
  obtain ⟨s1, e1, m1⟩ := h1 st hst sl hm
  exact fl_cons e1 (h2 st fl h s1 m1)
theorem nl_nx {mid : τ → List Pt} {o : Option τ} {f : τ → Option σ} (h1 : NS s ps o mid) (h2 : ∀ st, NL cs (mid st) (f st) post) : NL (s :: cs) ps (o.bind f) post := fun fl h sl hm => by
  obtain ⟨st, hst, h⟩ := Option.bind_eq_some_iff.mp h
  obtain ⟨s1, e1, m1⟩ := h1 st hst sl hm
  obtain ⟨s2, e2, m2⟩ := h2 st fl h s1 m1
  exact ⟨s2, fun ss => by rw [seq_nx (e1 ss)]; exact e2 ss, m2⟩
def seqF (o : Option (Fl τ)) (f : τ → Option (Fl σ)) : Option (Fl σ) := o.bind fun fl => match fl with
  | .nx st => f st
  | .rt d => some (.rt d)
theorem tl_fl {mid : τ → List Pt} {o : Option (Fl τ)} {f : τ → Option (Fl σ)} (h1 : TS s ps o mid mr) (h2 : ∀ st, TL cs (mid st) (f st) post mr) : TL (s :: cs) ps (seqF o f) post mr := fun fl h sl hm => by
  unfold seqF at h
  obtain ⟨f1, hf, h⟩ := Option.bind_eq_some_iff.mp h
  have q := h1 f1 hf sl hm
  cases f1 with
  | nx st =>
    obtain ⟨s1, e1, m1⟩ := q
    exact fl_cons e1 (h2 st fl h s1 m1)
  | rt d =>
    cases h
    exact fun ss => exs_rt (q ss)
theorem tl_wk (w : Wkn ps qs) {o : Option (Fl σ)} (h : TL cs qs o post mr) : TL cs ps o post mr := fun fl q sl hm => h fl q sl (w.mt hm)
theorem nl_wk (w : Wkn ps qs) {o : Option σ} (h : NL cs qs o post) : NL cs ps o post := fun fl q sl hm => h fl q sl (w.mt hm)
theorem ns_wk {o : Option σ} {post' : σ → List Pt} (h : NS s ps o post) (w : ∀ st, Wkn (post st) (post' st)) : NS s ps o post' := fun st q sl hm => by
  obtain ⟨s1, e1, m1⟩ := h st q sl hm
  exact ⟨s1, e1, (w st).mt m1⟩
theorem ts_wk {o : Option (Fl σ)} {post' : σ → List Pt} (h : TS s ps o post mr) (w : ∀ st, Wkn (post st) (post' st)) : TS s ps o post' mr := fun fl q sl hm => by
  have := h fl q sl hm
  cases fl with
  | nx st => obtain ⟨s1, e1, m1⟩ := this; exact ⟨s1, e1, (w st).mt m1⟩
  | rt d => exact this
/-- a returning statement, whatever stands behind it -/
theorem tl_ret [Rtm m mr] (h : PE m e ps oe) : TL (.ret e :: cs) ps (oe.bind fun d => some (.rt d)) post mr := fun fl q sl hm => by
  obtain ⟨d, hd, q⟩ := Option.bind_eq_some_iff.mp q
  cases q
  refine fun ss => exs_rt ?_
  rw [x_ret, h d hd sl hm ss]
  simp [O.f, Rtm.rt]
theorem tl_retn : TL (.retn :: cs) ps (some (.rt .none)) post .v := fun fl q sl hm => by cases q; exact fun ss => exs_rt rfl
theorem tl_retnC : TL (.retn :: cs) ps (some (.rt .none)) post canR := fun fl q sl hm => by cases q; exact fun ss => exs_rt rfl
theorem tl_never : TL (.never :: cs) ps none post mr := fun fl q => by cases q
theorem exs_appM : ∀ (as bs : List CS) (sl : List SV) (ss : SS), exs (as ++ bs) sl ss = match exs as sl ss with
    | some (.nx sl ss) => exs bs sl ss
    | r => r
  | [], bs, sl, ss => rfl
  | a :: as, bs, sl, ss => by
    rw [List.cons_append, exs_cons, exs_cons]
    cases ex a sl ss with
    | none => rfl
    | some o => cases o with
      | rt r s => rfl
      | nx s1 s2 => exact exs_appM as bs s1 s2
theorem tl_ite {ks : List CS} {o1 o2 : Option (Fl σ)} (hc : PB c ps pc) (h1 : TL (cs ++ ks) ps o1 post mr) (h2 : TL (ds ++ ks) ps o2 post mr) : TL (.ite c cs ds :: ks) ps (pc.bind fun b => if b then o1 else o2) post mr := fun fl q sl hm => by
  obtain ⟨b, hb, q⟩ := Option.bind_eq_some_iff.mp q
  have key : (fun ss => exs (.ite c cs ds :: ks) sl ss) = fun ss => exs ((if b then cs else ds) ++ ks) sl ss := funext fun ss => by
    rw [exs_cons, x_ite, hc.toB hb hm, exs_appM]
    cases b <;> rfl
  rw [key]
  cases b with
  | true => exact h1 fl q sl hm
  | false => exact h2 fl q sl hm
theorem ns_ite {o1 o2 : Option σ} (hc : PB c ps pc) (h1 : NL cs ps o1 post) (h2 : NL ds ps o2 post) : NS (.ite c cs ds) ps (pc.bind fun b => if b then o1 else o2) post := fun st q sl hm => by
  obtain ⟨b, hb, q⟩ := Option.bind_eq_some_iff.mp q
  cases b with
  | true =>
    obtain ⟨s1, e1, m1⟩ := h1 st q sl hm
    exact ⟨s1, fun ss => by rw [x_ite, hc.toB hb hm]; exact e1 ss, m1⟩
  | false =>
    obtain ⟨s1, e1, m1⟩ := h2 st q sl hm
    exact ⟨s1, fun ss => by rw [x_ite, hc.toB hb hm]; exact e1 ss, m1⟩
theorem ts_ite {o1 o2 : Option (Fl σ)} (hc : PB c ps pc) (h1 : TL cs ps o1 post mr) (h2 : TL ds ps o2 post mr) : TS (.ite c cs ds) ps (pc.bind fun b => if b then o1 else o2) post mr := fun fl q sl hm => by
  obtain ⟨b, hb, q⟩ := Option.bind_eq_some_iff.mp q
  have e : (fun ss => ex (.ite c cs ds) sl ss) = fun ss => if b then exs cs sl ss else exs ds sl ss := funext fun ss => by rw [x_ite, hc.toB hb hm]; rfl
  rw [e]
  cases b with
  | true => exact h1 fl q sl hm
  | false => exact h2 fl q sl hm
theorem ts_of {o : Option σ} (h : NS s ps o post) : TS s ps (o.bind fun st => some (.nx st)) post mr := fun fl q sl hm => by
  obtain ⟨st, hs, q⟩ := Option.bind_eq_some_iff.mp q
  cases q
  exact h st hs sl hm
theorem ns_of {o : Option σ} (h : TS s ps (o.bind fun st => some (.nx st)) post mr) : NS s ps o post := fun st q sl hm => h (.nx st) (by rw [q]; rfl) sl hm
/-! ### single statements -/
theorem ns_set {q : D → List Pt} [Stm m p] (h : PE m e ps oe) (hi : i < ps.length) (hq : ∀ d, ps.set i (p d) = q d) : NS (.set i e) ps oe q := fun d hd sl hm => by
  obtain ⟨s, e1, e2⟩ := Stm.st (m := m) (p := p) d
  refine ⟨sl.set i s, fun ss => ?_, hq d ▸ hm.set e2⟩
  rw [x_set, h d hd sl hm ss]
  simp [toSet, e1, setS, hm.lt hi]
theorem ns_setK (hi : i < ps.length) : NS (σ := List (L2.Key × D)) (.set i .newk) ps (some []) (fun kvs => ps.set i (.k kvs)) := fun kvs hd sl hm => by
  cases hd
  refine ⟨sl.set i (.dk []), fun ss => ?_, hm.set rfl⟩
  rw [x_set, e_newk]
  simp [toSet, toS, setS, hm.lt hi]
theorem toSs2 {r1 r2 : R} {s1 s2 : SV} (h1 : toS r1 = some s1) (h2 : toS r2 = some s2) : toSs [r1, r2] = some [s1, s2] := by simp [toSs, h1, h2]
theorem toSs3 {r1 r2 r3 : R} {s1 s2 s3 : SV} (h1 : toS r1 = some s1) (h2 : toS r2 = some s2) (h3 : toS r3 = some s3) : toSs [r1, r2, r3] = some [s1, s2, s3] := by simp [toSs, h1, h2, h3]
theorem ns_par2 [Stm m1 p1] [Stm m2 p2] (h1 : PE m1 a1 ps oa) (h2 : PE m2 a2 ps ob) (hi : i < ps.length) (hj : j < ps.length) : NS (σ := D × D) (.par [i, j] [a1, a2]) ps (oa.bind fun x => ob.bind fun y => some (x, y)) (fun st => (ps.set i (p1 st.1)).set j (p2 st.2)) := fun st hd sl hm => by
  obtain ⟨x, hx, q⟩ := Option.bind_eq_some_iff.mp hd
  obtain ⟨y, hy, q⟩ := Option.bind_eq_some_iff.mp q
  cases q
  obtain ⟨s1, e1, e2⟩ := Stm.st (m := m1) (p := p1) x
  obtain ⟨s2, f1, f2⟩ := Stm.st (m := m2) (p := p2) y
  refine ⟨(sl.set i s1).set j s2, fun ss => ?_, (hm.set e2).set f2⟩
  rw [x_par, es_cons, h1 x hx sl hm ss]
  simp only [Option.bind_some, es_cons, h2 y hy sl hm ss, es_nil, O.f, toSs2 e1 f1, Option.map_some, setAll, setS, hm.lt hi, if_true, List.length_set, hm.lt hj]
theorem ns_par3 [Stm m1 p1] [Stm m2 p2] [Stm m3 p3] (h1 : PE m1 a1 ps oa) (h2 : PE m2 a2 ps ob) (h3 : PE m3 a3 ps oc) (hi : i < ps.length) (hj : j < ps.length) (hk : k < ps.length) : NS (σ := D × D × D) (.par [i, j, k] [a1, a2, a3]) ps (oa.bind fun x => ob.bind fun y => oc.bind fun z => some (x, y, z)) (fun st => ((ps.set i (p1 st.1)).set j (p2 st.2.1)).set k (p3 st.2.2)) := fun st hd sl hm => by
  obtain ⟨x, hx, q⟩ := Option.bind_eq_some_iff.mp hd
  obtain ⟨y, hy, q⟩ := Option.bind_eq_some_iff.mp q
  obtain ⟨z, hz, q⟩ := Option.bind_eq_some_iff.mp q
  cases q
  obtain ⟨s1, e1, e2⟩ := Stm.st (m := m1) (p := p1) x
  obtain ⟨s2, f1, f2⟩ := Stm.st (m := m2) (p := p2) y
  obtain ⟨s3, g1, g2⟩ := Stm.st (m := m3) (p := p3) z
  refine ⟨((sl.set i s1).set j s2).set k s3, fun ss => ?_, ((hm.set e2).set f2).set g2⟩
  rw [x_par, es_cons, h1 x hx sl hm ss]
  simp only [Option.bind_some, es_cons, h2 y hy sl hm ss, h3 z hz sl hm ss, es_nil, O.f, toSs3 e1 f1 g1, Option.map_some, setAll, setS, hm.lt hi, if_true, List.length_set, hm.lt hj, hm.lt hk]
theorem ns_unp {f : D → Option σ} [Rdm m] (h : PE m e ps oe) (hb : ∀ d st, f d = some st → BT t d ps (post st)) : NS (.unp t e) ps (oe.bind f) post := fun st q sl hm => by
  obtain ⟨x, hx, q⟩ := Option.bind_eq_some_iff.mp q
  obtain ⟨s1, e1, m1⟩ := hb x st q sl hm
  refine ⟨s1, fun ss => ?_, m1⟩
  rw [x_unp, h.toD hx hm]
  simp [e1]
def un2o (d : D) : Option (D × D) := match d with
  | .tuple [x, y] => some (x, y)
  | _ => none
def un3o (d : D) : Option (D × D × D) := match d with
  | .tuple [x, y, z] => some (x, y, z)
  | _ => none
def un4o (d : D) : Option (D × D × D × D) := match d with
  | .tuple [x, y, z, w] => some (x, y, z, w)
  | _ => none
theorem ns_unp2 [Rdm m] (h : PE m e ps oe) (hi : i < ps.length) (hj : j < ps.length) : NS (.unp (.tup [.one i, .one j]) e) ps (oe.bind un2o) (fun st => (ps.set i (.v st.1)).set j (.v st.2)) := ns_unp h fun d st q => by
  unfold un2o at q; split at q
  · cases q; exact bt_tup (bts_cons (bt_one hi) (bts_cons (bt_one (by simpa using hj)) bts_nil))
  · cases q
theorem ns_unp3 [Rdm m] (h : PE m e ps oe) (hi : i < ps.length) (hj : j < ps.length) (hk : k < ps.length) : NS (.unp (.tup [.one i, .one j, .one k]) e) ps (oe.bind un3o) (fun st => ((ps.set i (.v st.1)).set j (.v st.2.1)).set k (.v st.2.2)) := ns_unp h fun d st q => by
  unfold un3o at q; split at q
  · cases q; exact bt_tup (bts_cons (bt_one hi) (bts_cons (bt_one (by simpa using hj)) (bts_cons (bt_one (by simpa using hk)) bts_nil)))
  · cases q
theorem ns_unp4 [Rdm m] (h : PE m e ps oe) (hi : i < ps.length) (hj : j < ps.length) (hk : k < ps.length) (hn : n < ps.length) : NS (.unp (.tup [.one i, .one j, .one k, .one n]) e) ps (oe.bind un4o) (fun st => (((ps.set i (.v st.1)).set j (.v st.2.1)).set k (.v st.2.2.1)).set n (.v st.2.2.2)) := ns_unp h fun d st q => by
  unfold un4o at q; split at q
  · cases q; exact bt_tup (bts_cons (bt_one hi) (bts_cons (bt_one (by simpa using hj)) (bts_cons (bt_one (by simpa using hk)) (bts_cons (bt_one (by simpa using hn)) bts_nil))))
  · cases q
theorem own_at {xs : List D} (h : ps[i]? = some (.c (.list xs))) {sl} (hm : Mt ps sl) : sl[i]? = some (.own xs) := by
  obtain ⟨s, e, r⟩ := hm.get h
  rw [e, r]; rfl
def appS (x y : D) : Option D := match x with
  | .list xs => if xs.length < SL then some (.list (xs ++ [y])) else none
  | _ => none
theorem ns_app [Esm m] (hp : ps[i]? = some (.c x)) (h : PE m e ps oe) : NS (.app i e) ps (oe.bind (appS x)) (fun z => ps.set i (.c z)) := fun st q sl hm => by
  obtain ⟨y, hy, q⟩ := Option.bind_eq_some_iff.mp q
  unfold appS at q
  split at q
  case h_2 => cases q
  split at q
  case isFalse => cases q
  case isTrue hl =>
  cases q
  refine ⟨_, fun ss => ?_, hm.set rfl⟩
  rw [x_app, h.toE hy hm]
  simp [own_at hp hm, ownL, hl, canS]
def extS (x y : D) : Option D := match x, y with
  | .list xs, .list ys => if xs.length + ys.length ≤ SL then some (.list (xs ++ ys)) else none
  | _, _ => none
theorem ns_ext [Rdm m] (hp : ps[i]? = some (.c x)) (h : PE m e ps oe) : NS (.ext i e) ps (oe.bind (extS x)) (fun z => ps.set i (.c z)) := fun st q sl hm => by
  obtain ⟨y, hy, q⟩ := Option.bind_eq_some_iff.mp q
  unfold extS at q
  split at q
  case h_2 => cases q
  split at q
  case isFalse => cases q
  case isTrue hl =>
  cases q
  refine ⟨_, fun ss => ?_, hm.set rfl⟩
  rw [x_ext, h.toD hy hm]
  simp [own_at hp hm, ownL, hl, canS]
theorem ns_augC [Rdm m] (hp : ps[i]? = some (.c x)) (h : PE m e ps oe) : NS (.aug i .add e) ps (oe.bind (extS x)) (fun z => ps.set i (.c z)) := fun st q sl hm => by
  obtain ⟨y, hy, q⟩ := Option.bind_eq_some_iff.mp q
  unfold extS at q
  split at q
  case h_2 => cases q
  split at q
  case isFalse => cases q
  case isTrue hl =>
  cases q
  refine ⟨_, fun ss => ?_, hm.set rfl⟩
  rw [x_aug, h.toD hy hm]
  simp [own_at hp hm, augD, hl, canS]
theorem ns_augV {op : BOp} [Rdm m] (hp : ps[i]? = some (.v x)) (h : PE m e ps oe) : NS (.aug i op e) ps (oe.bind (augI op x)) (fun z => ps.set i (.v z)) := fun st q sl hm => by
  obtain ⟨y, hy, q⟩ := Option.bind_eq_some_iff.mp q
  obtain ⟨s, e1, r⟩ := hm.get hp
  cases r
  refine ⟨_, fun ss => ?_, hm.set rfl⟩
  rw [x_aug, h.toD hy hm]
  simp [augD, e1, q]
def stoS (x k y : D) : Option D := match x, k with
  | .list xs, .int k => (ixN xs.length k).map fun j => .list (xs.set j y)
  | _, _ => none
theorem stoS_ok {x k y z : D} (hp : ps[i]? = some (.c x)) (q : stoS x k y = some z) {sl} (hm : Mt ps sl) : ∃ sl', stoD sl i k y = some sl' ∧ Mt (ps.set i (.c z)) sl' := by
  unfold stoS at q
  split at q
  case h_2 => cases q
  obtain ⟨j, hj, rfl⟩ := Option.map_eq_some_iff.mp q
  refine ⟨_, ?_, hm.set rfl⟩
  simp [stoD, own_at hp hm, hj, canS]
theorem ns_sto [Esm m1] [Rdm m2] (hp : ps[i]? = some (.c x)) (h : PE m1 e ps oe) (h2 : PE m2 kc ps ok) : NS (.sto i kc e) ps (oe.bind fun y => ok.bind fun k => stoS x k y) (fun z => ps.set i (.c z)) := fun st q sl hm => by
  obtain ⟨y, hy, q⟩ := Option.bind_eq_some_iff.mp q
  obtain ⟨k, hk, q⟩ := Option.bind_eq_some_iff.mp q
  obtain ⟨s1, e1, mm⟩ := stoS_ok hp q hm
  refine ⟨s1, fun ss => ?_, mm⟩
  rw [x_sto, h.toE hy hm]
  simp [h2.toD hk hm, e1]
/-- both on one list -/
theorem ns_sto2 {l f : CE} {of : Option D} {ol : D → Option D} {m4 : D → R} [Esm m1] [Esm m2] [Rdm m3] [Rdm m4] (hi : i < ps.length) (hp : ps[i]? = some (.c x)) (h : PE m1 e ps oe) (h2 : PE m2 f ps of) (h3 : PE m3 kc ps ok) (h4 : ∀ z, PE m4 l (ps.set i (.c z)) (ol z)) :
    NS (.sto2 i kc i l e f) ps (oe.bind fun y => of.bind fun w => ok.bind fun k => (stoS x k y).bind fun z => (ol z).bind fun k2 => stoS z k2 w) (fun z => ps.set i (.c z)) := fun st q sl hm => by
  obtain ⟨y, hy, q⟩ := Option.bind_eq_some_iff.mp q
  obtain ⟨w, hw, q⟩ := Option.bind_eq_some_iff.mp q
  obtain ⟨k, hk, q⟩ := Option.bind_eq_some_iff.mp q
  obtain ⟨z, hz, q⟩ := Option.bind_eq_some_iff.mp q
  obtain ⟨k2, hk2, q⟩ := Option.bind_eq_some_iff.mp q
  obtain ⟨s1, e1, mm⟩ := stoS_ok hp hz hm
  obtain ⟨s2, e2, mm2⟩ := stoS_ok (i := i) (ps := ps.set i (.c z)) (by simp [hi]) q mm
  rw [List.set_set] at mm2
  refine ⟨s2, fun ss => ?_, mm2⟩
  rw [x_sto2, h.toE hy hm]
  simp [h2.toE hw hm, h3.toD hk hm, e1, (h4 z).toD hk2 mm, e2]
/-- on two lists -/
theorem ns_sto2d {l f : CE} {of : Option D} {ol : D → Option D} {m4 : D → R} [Esm m1] [Esm m2] [Rdm m3] [Rdm m4] (hij : i ≠ j) (hp : ps[i]? = some (.c x)) (hp2 : ps[j]? = some (.c y)) (h : PE m1 e ps oe) (h2 : PE m2 f ps of) (h3 : PE m3 kc ps ok) (h4 : ∀ z, PE m4 l (ps.set i (.c z)) (ol z)) :
    NS (σ := D × D) (.sto2 i kc j l e f) ps (oe.bind fun u => of.bind fun w => ok.bind fun k => (stoS x k u).bind fun z => (ol z).bind fun k2 => (stoS y k2 w).bind fun z2 => some (z, z2)) (fun z => (ps.set i (.c z.1)).set j (.c z.2)) := fun st q sl hm => by
  obtain ⟨u, hy, q⟩ := Option.bind_eq_some_iff.mp q
  obtain ⟨w, hw, q⟩ := Option.bind_eq_some_iff.mp q
  obtain ⟨k, hk, q⟩ := Option.bind_eq_some_iff.mp q
  obtain ⟨z, hz, q⟩ := Option.bind_eq_some_iff.mp q
  obtain ⟨k2, hk2, q⟩ := Option.bind_eq_some_iff.mp q
  obtain ⟨z2, hz2, q⟩ := Option.bind_eq_some_iff.mp q
  cases q
  obtain ⟨s1, e1, mm⟩ := stoS_ok hp hz hm
  obtain ⟨s2, e2, mm2⟩ := stoS_ok (i := j) (ps := ps.set i (.c z)) (by rw [List.getElem?_set_ne hij]; exact hp2) hz2 mm
  refine ⟨s2, fun ss => ?_, mm2⟩
  rw [x_sto2, h.toE hy hm]
  simp [h2.toE hw hm, h3.toD hk hm, e1, (h4 z).toD hk2 mm, e2]
def augsS (op : BOp) (x k y : D) : Option D := match x, k with
  | .list xs, .int k => (ixN xs.length k).bind fun j => xs[j]?.bind fun v => (augI op v y).map fun z => .list (xs.set j z)
  | _, _ => none
theorem ns_augs {op : BOp} [Rdm m1] [Rdm m2] (hp : ps[i]? = some (.c x)) (h2 : PE m2 kc ps ok) (h : PE m1 e ps oe) : NS (.augs i kc op e) ps (ok.bind fun k => oe.bind fun y => augsS op x k y) (fun z => ps.set i (.c z)) := fun st q sl hm => by
  obtain ⟨k, hk, q⟩ := Option.bind_eq_some_iff.mp q
  obtain ⟨y, hy, q⟩ := Option.bind_eq_some_iff.mp q
  unfold augsS at q
  split at q
  case h_2 => cases q
  obtain ⟨j, hj, q⟩ := Option.bind_eq_some_iff.mp q
  obtain ⟨v, hv, q⟩ := Option.bind_eq_some_iff.mp q
  obtain ⟨z, hz, rfl⟩ := Option.map_eq_some_iff.mp q
  refine ⟨_, fun ss => ?_, hm.set rfl⟩
  rw [x_augs, h2.toD hk hm]
  simp [h.toD hy hm, augsD, own_at hp hm, hj, hv, hz, canS]
def popS0 (x : D) : Option (D × D) := match x with
  | .list xs => xs.getLast?.map fun d => (d, .list xs.dropLast)
  | _ => none
def popS1 (x k : D) : Option (D × D) := match x with
  | .list xs => (popAt false xs k).map fun q => (q.1, .list q.2)
  | _ => none
theorem ns_pop0 (hp : ps[i]? = some (.c x)) (hj : j < ps.length) : NS (.popS j i .nop) ps (popS0 x) (fun z => (ps.set i (.c z.2)).set j (.v z.1)) := fun st q sl hm => by
  unfold popS0 at q
  split at q
  case h_2 => cases q
  obtain ⟨y, hy, rfl⟩ := Option.map_eq_some_iff.mp q
  refine ⟨(sl.set i (.own _)).set j (.v y), fun ss => ?_, ((hm.set (p := .c (.list _)) (s := .own _) rfl).set (p := .v _) rfl)⟩
  rw [x_popS, e_nop]
  simp [toD, O.f, rd, own_at hp hm, ownL, isNop, popAt, hy, setS, hm.lt hj, canS]
theorem ns_pop1 [Rdm m] (hn : isNop e = false) (hp : ps[i]? = some (.c x)) (hj : j < ps.length) (h : PE m e ps oe) : NS (.popS j i e) ps (oe.bind (popS1 x)) (fun z => (ps.set i (.c z.2)).set j (.v z.1)) := fun st q sl hm => by
  obtain ⟨k, hk, q⟩ := Option.bind_eq_some_iff.mp q
  unfold popS1 at q
  split at q
  case h_2 => cases q
  obtain ⟨y, hy, rfl⟩ := Option.map_eq_some_iff.mp q
  refine ⟨(sl.set i (.own y.2)).set j (.v y.1), fun ss => ?_, ((hm.set (p := .c (.list _)) (s := .own _) rfl).set (p := .v _) rfl)⟩
  rw [x_popS, h.toD hk hm]
  simp [own_at hp hm, ownL, hn, hy, setS, hm.lt hj, canS]
theorem ns_nop : NS (σ := Unit) (.exp .nop) ps (some ()) (fun _ => ps) := fun st q sl hm => ⟨sl, fun ss => rfl, hm⟩
theorem tl_exp {o : Option (Fl σ)} (h : TL cs ps o post mr) : TL (.exp .nop :: cs) ps o post mr := fun fl q sl hm => fl_cons (fun _ => rfl) (h fl q sl hm)
theorem nl_exp {o : Option σ} (h : NL cs ps o post) : NL (.exp .nop :: cs) ps o post := fun fl q sl hm => by
  obtain ⟨s1, e1, m1⟩ := h fl q sl hm
  exact ⟨s1, fun ss => by rw [seq_nx (s := .exp .nop) (sl' := sl) (ss' := ss) rfl]; exact e1 ss, m1⟩
def fzP (ps : List Pt) (i : Nat) : List Pt := match ps[i]? with
  | some (.c d) => ps.set i (.v d)
  | _ => ps
theorem fz_mt {sl : List SV} (hm : Mt ps sl) (hp : ps[i]? = some (.c d)) : Mt (ps.set i (.v d)) (frzS sl i) := by
  obtain ⟨s, e, r⟩ := hm.get hp
  have r : s = canS d := r
  subst r
  unfold frzS
  rw [e]
  cases d <;> simp only [canS] <;> first
    | exact hm.set rfl
    | (have hl := (List.getElem?_eq_some_iff.mp e).1
       have he := (List.getElem?_eq_some_iff.mp e).2
       have := hm.set (i := i) (p := .v _) (s := sl[i]) he
       rw [List.set_getElem_self] at this
       exact this)
theorem tl_frz {o : Option (Fl σ)} (hp : ps[i]? = some (.c d)) (h : TL cs (ps.set i (.v d)) o post mr) : TL (.frz i :: cs) ps o post mr := fun fl q sl hm => fl_cons (fun ss => x_frz i sl ss) (h fl q _ (fz_mt hm hp))
theorem nl_frz {o : Option σ} (hp : ps[i]? = some (.c d)) (h : NL cs (ps.set i (.v d)) o post) : NL (.frz i :: cs) ps o post := fun fl q sl hm => by
  obtain ⟨s1, e1, m1⟩ := h fl q _ (fz_mt hm hp)
  exact ⟨s1, fun ss => by rw [seq_nx (x_frz i sl ss)]; exact e1 ss, m1⟩
def dputS (kvs : List (L2.Key × D)) (k y : D) : Option (List (L2.Key × D)) := (keyOf k).bind fun k => if kvs.length < SL then some (kPut kvs k y) else none
theorem ns_dput {kvs : List (L2.Key × D)} [Esm m1] [Rdm m2] (hp : ps[i]? = some (.k kvs)) (h : PE m1 e ps oe) (h2 : PE m2 kc ps ok) : NS (.dput i kc e) ps (oe.bind fun y => ok.bind fun k => dputS kvs k y) (fun z => ps.set i (.k z)) := fun st q sl hm => by
  obtain ⟨y, hy, q⟩ := Option.bind_eq_some_iff.mp q
  obtain ⟨k, hk, q⟩ := Option.bind_eq_some_iff.mp q
  unfold dputS at q
  obtain ⟨k', hk', q⟩ := Option.bind_eq_some_iff.mp q
  split at q
  case isFalse => cases q
  case isTrue hl =>
  cases q
  refine ⟨_, fun ss => ?_, hm.set rfl⟩
  rw [x_dput, h.toE hy hm]
  simp [h2.toD hk hm, dputD, dk_at hp hm, hk', hl]
/-! ### loops -/
def forS (f : D → σ → Option σ) : List D → σ → Option σ
  | [], st => some st
  | d :: ds, st => (f d st).bind (forS f ds)
def forF (f : D → σ → Option (Fl σ)) : List D → σ → Option (Fl σ)
  | [], st => some (.nx st)
  | d :: ds, st => seqF (f d st) (forF f ds)
/-- a turn's body behind its target -/
def NB (t : TGt) (d : D) (cs : List CS) (ps : List Pt) (o : Option σ) (post : σ → List Pt) : Prop := ∀ st, o = some st → ∀ sl, Mt ps sl → ∃ sl1 sl', bindT t d sl = some sl1 ∧ (∀ ss, exs cs sl1 ss = some (.nx sl' ss)) ∧ Mt (post st) sl'
def TB (t : TGt) (d : D) (cs : List CS) (ps : List Pt) (o : Option (Fl σ)) (post : σ → List Pt) (mr : D → R) : Prop := ∀ fl, o = some fl → ∀ sl, Mt ps sl → ∃ sl1, bindT t d sl = some sl1 ∧ FlOk (fun ss => exs cs sl1 ss) post mr fl
theorem nb_bt {o : Option σ} (h : BT t d ps qs) (h2 : NL cs qs o post) : NB t d cs ps o post := fun st q sl hm => by
  obtain ⟨s1, e1, m1⟩ := h sl hm
  obtain ⟨s2, e2, m2⟩ := h2 st q s1 m1
  exact ⟨s1, s2, e1, e2, m2⟩
theorem tb_bt {o : Option (Fl σ)} (h : BT t d ps qs) (h2 : TL cs qs o post mr) : TB t d cs ps o post mr := fun st q sl hm => by
  obtain ⟨s1, e1, m1⟩ := h sl hm
  exact ⟨s1, e1, h2 st q s1 m1⟩
theorem nb_un2 {f : D → D → Option σ} (h : ∀ x y, NB t (.tuple [x, y]) cs ps (f x y) post) : NB t d cs ps (un2 d f) post := fun st q => by
  obtain ⟨x, y, rfl, q⟩ := un2_ok q; exact h x y st q
theorem nb_un3 {f : D → D → D → Option σ} (h : ∀ x y z, NB t (.tuple [x, y, z]) cs ps (f x y z) post) : NB t d cs ps (un3 d f) post := fun st q => by
  obtain ⟨x, y, z, rfl, q⟩ := un3_ok q; exact h x y z st q
theorem tb_un2 {f : D → D → Option (Fl σ)} (h : ∀ x y, TB t (.tuple [x, y]) cs ps (f x y) post mr) : TB t d cs ps (un2 d f) post mr := fun st q => by
  obtain ⟨x, y, rfl, q⟩ := un2_ok q; exact h x y st q
theorem tb_un3 {f : D → D → D → Option (Fl σ)} (h : ∀ x y z, TB t (.tuple [x, y, z]) cs ps (f x y z) post mr) : TB t d cs ps (un3 d f) post mr := fun st q => by
  obtain ⟨x, y, z, rfl, q⟩ := un3_ok q; exact h x y z st q
theorem kept_nil (x : Option Out) : keptLocks [] x = x := by
  unfold keptLocks
  split
  · simp
  · rfl
theorem for_run {ls : List Nat} {inv : σ → List Pt} {f : D → σ → Option (Fl σ)} (hl : ∀ st sl, Mt (inv st) sl → ls.all (isLock sl) = true) (hb : ∀ d st, TB t d cs (inv st) (f d st) inv mr) : ∀ (xs : List D) (st : σ) (fl : Fl σ), forF f xs st = some fl → ∀ sl, Mt (inv st) sl →
    FlOk (fun ss => forD (fun d sl' ss => (bindT t d sl').bind fun sl' => keptLocks ls (exs cs sl' ss)) xs sl ss) inv mr fl
  | [], st, fl, h, sl, hm => by cases h; exact ⟨sl, fun _ => rfl, hm⟩
  | d :: ds, st, fl, h, sl, hm => by
    unfold forF seqF at h
    obtain ⟨f1, hf, h⟩ := Option.bind_eq_some_iff.mp h
    obtain ⟨s1, e1, k1⟩ := hb d st f1 hf sl hm
    cases f1 with
    | nx st1 =>
      obtain ⟨s2, e2, m2⟩ := k1
      have e3 : ∀ ss, ((bindT t d sl).bind fun sl' => keptLocks ls (exs cs sl' ss)) = some (.nx s2 ss) := fun ss => by
        rw [e1]
        simp only [Option.bind_some, e2 ss, keptLocks, hl st1 s2 m2, if_true]
      have ih := for_run hl hb ds st1 fl h s2 m2
      have e4 : (fun ss => forD (fun d sl' ss => (bindT t d sl').bind fun sl' => keptLocks ls (exs cs sl' ss)) (d :: ds) sl ss) = fun ss => forD (fun d sl' ss => (bindT t d sl').bind fun sl' => keptLocks ls (exs cs sl' ss)) ds s2 ss := funext fun ss => by
        conv => lhs; unfold forD
        rw [e3 ss]
      rw [e4]
      exact ih
    | rt d1 =>
      cases h
      intro ss
      have k1 : exs cs s1 ss = some (.rt (mr d1) ss) := k1 ss
      have e3 : ((bindT t d sl).bind fun sl' => keptLocks ls (exs cs sl' ss)) = some (.rt (mr d1) ss) := by
        rw [e1]
        simp only [Option.bind_some, k1, keptLocks]
      show forD _ (d :: ds) sl ss = _
      unfold forD
      rw [e3]
theorem forF_of {f : D → σ → Option σ} : ∀ (xs : List D) (st : σ), forF (fun d st => (f d st).bind fun st => some (.nx st)) xs st = (forS f xs st).bind fun st => some (.nx st)
  | [], st => rfl
  | d :: ds, st => by
    unfold forF forS seqF
    cases f d st with
    | none => rfl
    | some s1 => exact forF_of ds s1
theorem tb_ofn {o : Option σ} (h : NB t d cs ps o post) : TB t d cs ps (o.bind fun st => some (.nx st)) post mr := fun fl q sl hm => by
  obtain ⟨st, hs, q⟩ := Option.bind_eq_some_iff.mp q
  cases q
  obtain ⟨s1, s2, e1, e2, m2⟩ := h st hs sl hm
  exact ⟨s1, e1, ⟨s2, e2, m2⟩⟩
theorem nb_of {o : Option σ} (h : TB t d cs ps (o.bind fun st => some (.nx st)) post mr) : NB t d cs ps o post := fun st q sl hm => by
  obtain ⟨s1, e1, s2, e2, m2⟩ := h (.nx st) (by rw [q]; rfl) sl hm
  exact ⟨s1, s2, e1, e2, m2⟩
/-- no list of one's own is walked -/
theorem ts_for0 {inv : σ → List Pt} {st0 : σ} {f : D → σ → Option (Fl σ)} (hk : lockOf it = some []) (hi : PI it ps oi) (h0 : Wkn ps (inv st0)) (hb : ∀ d st, TB t d cs (inv st) (f d st) inv mr) : TS (.forr t it cs) ps (oi.bind fun xs => forF f xs st0) inv mr := fun fl q sl hm => by
  obtain ⟨xs, hx, q⟩ := Option.bind_eq_some_iff.mp q
  have key := for_run (ls := []) (fun _ _ _ => rfl) hb xs st0 fl q sl (h0.mt hm)
  have e : ∀ ss, ex (.forr t it cs) sl ss = match forD (fun d sl' ss => (bindT t d sl').bind fun sl' => keptLocks [] (exs cs sl' ss)) xs sl ss with
      | some (.nx sl' ss') => some (.nx sl' ss')
      | r => r := fun ss => by
    rw [x_forr, hk, hi xs hx sl hm ss]
    rfl
  cases fl with
  | nx st =>
    obtain ⟨s1, e1, m1⟩ := key
    exact ⟨s1, fun ss => by have e1' := e1 ss; dsimp only at e1'; show ex _ sl ss = _; rw [e ss, e1'], m1⟩
  | rt d => exact fun ss => by have k := key ss; dsimp only at k; show ex _ sl ss = _; rw [e ss, k]
/-- a shared one is walked by its name -/
theorem ts_forV {inv : σ → List Pt} {st0 : σ} {f : D → σ → Option (Fl σ)} (hk : lockOf it = some [i]) (hp : ps[i]? = some (.v x)) (hi : PI it ps oi) (h0 : Wkn ps (inv st0)) (hb : ∀ d st, TB t d cs (inv st) (f d st) inv mr) : TS (.forr t it cs) ps (oi.bind fun xs => forF f xs st0) inv mr := fun fl q sl hm => by
  obtain ⟨xs, hx, q⟩ := Option.bind_eq_some_iff.mp q
  obtain ⟨s, e, r⟩ := hm.get hp
  cases r
  have n1 : lockAll [i] sl = sl := by simp [lockAll, lockS, e]
  have n2 : isLock sl i = false := by simp [isLock, e]
  have n3 : isOwn sl i = false := by simp [isOwn, e]
  have key := for_run (ls := []) (fun _ _ _ => rfl) hb xs st0 fl q sl (h0.mt hm)
  have e : ∀ ss, ex (.forr t it cs) sl ss = match forD (fun d sl' ss => (bindT t d sl').bind fun sl' => keptLocks [] (exs cs sl' ss)) xs sl ss with
      | some (.nx sl' ss') => some (.nx sl' ss')
      | r => r := fun ss => by
    rw [x_forr, hk, hi xs hx sl hm ss]
    simp only [Option.bind_some, n1, List.filter_cons, n2, List.filter_nil, Bool.false_eq_true, if_false]
    generalize forD _ xs sl ss = z
    cases z with
    | none => rfl
    | some o => cases o <;> simp [ownAll, unlockAll, n3, unlockS]
  cases fl with
  | nx st =>
    obtain ⟨s1, e1, m1⟩ := key
    exact ⟨s1, fun ss => by have e1' := e1 ss; dsimp only at e1'; show ex _ sl ss = _; rw [e ss, e1'], m1⟩
  | rt d => exact fun ss => by have k := key ss; dsimp only at k; show ex _ sl ss = _; rw [e ss, k]
/-- one's own list is walked by its name: it is locked then -/
theorem ts_forC {inv : σ → List Pt} {st0 : σ} {f : D → σ → Option (Fl σ)} (hk : lockOf it = some [i]) (hp : ps[i]? = some (.c x)) (hi : PI it ps oi) (h0 : Wkn (ps.set i (.l x)) (inv st0)) (hinv : ∀ st, (inv st)[i]? = some (.l x)) (hb : ∀ d st, TB t d cs (inv st) (f d st) inv mr) :
    TS (.forr t it cs) ps (oi.bind fun xs => forF f xs st0) (fun st => (inv st).set i (.c x)) mr := fun fl q sl hm => by
  obtain ⟨xs, hx, q⟩ := Option.bind_eq_some_iff.mp q
  obtain ⟨s, e, r⟩ := hm.get hp
  have r : s = canS x := r
  subst r
  by_cases hx2 : ∃ ys, x = .list ys
  · obtain ⟨ys, rfl⟩ := hx2
    have hm1 : Mt (ps.set i (.l (.list ys))) (sl.set i (.lock ys)) := hm.set rfl
    have n1 : lockAll [i] sl = sl.set i (.lock ys) := by simp [lockAll, lockS, e, canS]
    have hl := (List.getElem?_eq_some_iff.mp e).1
    have n2 : isLock (sl.set i (.lock ys)) i = true := by simp [isLock, hl]
    have n3 : isOwn sl i = true := by simp [isOwn, e, canS]
    have lk : ∀ st sl, Mt (inv st) sl → sl[i]? = some (.lock ys) := fun st sl hm => by
      obtain ⟨s, e, r⟩ := hm.get (hinv st)
      rw [e, r]; rfl
    have key := for_run (ls := [i]) (fun st sl hm => by simp [isLock, lk st sl hm]) hb xs st0 fl q _ (h0.mt hm1)
    have e : ∀ ss, ex (.forr t it cs) sl ss = match forD (fun d sl' ss => (bindT t d sl').bind fun sl' => keptLocks [i] (exs cs sl' ss)) xs (sl.set i (.lock ys)) ss with
        | some (.nx sl' ss') => some (.nx (unlockAll [(i, true)] sl') ss')
        | r => r := fun ss => by
      rw [x_forr, hk, hi xs hx sl hm ss]
      simp only [Option.bind_some, n1, List.filter_cons, n2, List.filter_nil, if_true, ownAll, List.map_cons, List.map_nil, n3]
      all_goals (generalize forD _ xs _ ss = z; cases z <;> first | rfl | (rename_i o; cases o <;> rfl))
    cases fl with
    | nx st =>
      obtain ⟨s1, e1, m1⟩ := key
      refine ⟨s1.set i (.own ys), fun ss => ?_, m1.set rfl⟩
      have e1' := e1 ss
      dsimp only at e1'
      show ex _ sl ss = _
      rw [e ss, e1']
      simp [unlockAll, unlockS, lk st s1 m1]
    | rt d => exact fun ss => by have k := key ss; dsimp only at k; show ex _ sl ss = _; rw [e ss, k]
  · have hc : canS x = .v x := by cases x <;> first | rfl | exact absurd ⟨_, rfl⟩ hx2
    have hcl : canL x = .v x := by cases x <;> first | rfl | exact absurd ⟨_, rfl⟩ hx2
    rw [hc] at e
    have n1 : lockAll [i] sl = sl := by simp [lockAll, lockS, e]
    have hm1 : Mt (ps.set i (.l x)) sl := by
      have he := (List.getElem?_eq_some_iff.mp e).2
      have := hm.set (i := i) (p := .l x) (s := sl[i]'(List.getElem?_eq_some_iff.mp e).1) (by rw [he]; exact hcl.symm)
      rw [List.set_getElem_self] at this
      exact this
    have n2 : isLock sl i = false := by simp [isLock, e]
    have n3 : isOwn sl i = false := by simp [isOwn, e]
    have key := for_run (ls := []) (fun _ _ _ => rfl) hb xs st0 fl q sl (h0.mt hm1)
    have e : ∀ ss, ex (.forr t it cs) sl ss = match forD (fun d sl' ss => (bindT t d sl').bind fun sl' => keptLocks [] (exs cs sl' ss)) xs sl ss with
        | some (.nx sl' ss') => some (.nx sl' ss')
        | r => r := fun ss => by
      rw [x_forr, hk, hi xs hx sl hm ss]
      simp only [Option.bind_some, n1, List.filter_cons, n2, List.filter_nil, Bool.false_eq_true, if_false]
      generalize forD _ xs sl ss = z
      cases z with
      | none => rfl
      | some o => cases o <;> simp [ownAll, unlockAll, n3, unlockS]
    cases fl with
    | nx st =>
      obtain ⟨s1, e1, m1⟩ := key
      refine ⟨s1, fun ss => by have e1' := e1 ss; dsimp only at e1'; show ex _ sl ss = _; rw [e ss, e1'], ?_⟩
      obtain ⟨s, e, r⟩ := m1.get (hinv st)
      have he := (List.getElem?_eq_some_iff.mp e).2
      have r : s = canL x := r
      have := m1.set (i := i) (p := .c x) (s := s1[i]'(List.getElem?_eq_some_iff.mp e).1) (by rw [he, r, hcl]; exact hc.symm)
      rw [List.set_getElem_self] at this
      exact this
    | rt d => exact fun ss => by have k := key ss; dsimp only at k; show ex _ sl ss = _; rw [e ss, k]
theorem ns_for0 {inv : σ → List Pt} {st0 : σ} {f : D → σ → Option σ} (hk : lockOf it = some []) (hi : PI it ps oi) (h0 : Wkn ps (inv st0)) (hb : ∀ d st, NB t d cs (inv st) (f d st) inv) : NS (.forr t it cs) ps (oi.bind fun xs => forS f xs st0) inv := ns_of (mr := .v) (by
  have := ts_for0 (mr := .v) hk hi h0 (fun d st => tb_ofn (hb d st))
  rw [Option.bind_assoc]
  rw [show (fun xs => forF (fun d st => (f d st).bind fun st => some (.nx st)) xs st0) = fun xs => (forS f xs st0).bind fun st => some (.nx st) from funext fun xs => forF_of xs st0] at this
  exact this)
theorem ns_forV {inv : σ → List Pt} {st0 : σ} {f : D → σ → Option σ} (hk : lockOf it = some [i]) (hp : ps[i]? = some (.v x)) (hi : PI it ps oi) (h0 : Wkn ps (inv st0)) (hb : ∀ d st, NB t d cs (inv st) (f d st) inv) : NS (.forr t it cs) ps (oi.bind fun xs => forS f xs st0) inv := ns_of (mr := .v) (by
  have := ts_forV (mr := .v) hk hp hi h0 (fun d st => tb_ofn (hb d st))
  rw [Option.bind_assoc]
  rw [show (fun xs => forF (fun d st => (f d st).bind fun st => some (.nx st)) xs st0) = fun xs => (forS f xs st0).bind fun st => some (.nx st) from funext fun xs => forF_of xs st0] at this
  exact this)
theorem ns_forC {inv : σ → List Pt} {st0 : σ} {f : D → σ → Option σ} (hk : lockOf it = some [i]) (hp : ps[i]? = some (.c x)) (hi : PI it ps oi) (h0 : Wkn (ps.set i (.l x)) (inv st0)) (hinv : ∀ st, (inv st)[i]? = some (.l x)) (hb : ∀ d st, NB t d cs (inv st) (f d st) inv) : NS (.forr t it cs) ps (oi.bind fun xs => forS f xs st0) (fun st => (inv st).set i (.c x)) := ns_of (mr := .v) (by
  have := ts_forC (mr := .v) hk hp hi h0 hinv (fun d st => tb_ofn (hb d st))
  rw [Option.bind_assoc]
  rw [show (fun xs => forF (fun d st => (f d st).bind fun st => some (.nx st)) xs st0) = fun xs => (forS f xs st0).bind fun st => some (.nx st) from funext fun xs => forF_of xs st0] at this
  exact this)
/-! while -/
def whF (c : σ → Option Bool) (f : σ → Option (Fl σ)) : Nat → σ → Option (Fl σ)
  | 0, _ => none
  | n + 1, st => (c st).bind fun b => if b then seqF (f st) (whF c f n) else some (.nx st)
def whS (c : σ → Option Bool) (f : σ → Option σ) : Nat → σ → Option σ
  | 0, _ => none
  | n + 1, st => (c st).bind fun b => if b then (f st).bind (whS c f n) else some st
theorem wh_run {inv : σ → List Pt} {oc : σ → Option Bool} {f : σ → Option (Fl σ)} (hc : ∀ st, PB c (inv st) (oc st)) (hb : ∀ st, TL cs (inv st) (f st) inv mr) : ∀ (n : Nat) (st : σ) (fl : Fl σ), whF oc f n st = some fl → ∀ sl, Mt (inv st) sl →
    FlOk (fun ss => whD (fun sl ss => toB (ev c sl ss)) (fun sl ss => exs cs sl ss) n sl ss) inv mr fl
  | 0, st, fl, h, sl, hm => by cases h
  | n + 1, st, fl, h, sl, hm => by
    unfold whF at h
    obtain ⟨b, hb2, h⟩ := Option.bind_eq_some_iff.mp h
    cases b with
    | false =>
      cases h
      refine ⟨sl, fun ss => ?_, hm⟩
      show whD _ _ (n + 1) sl ss = _
      unfold whD
      rw [(hc st).toB hb2 hm]
      rfl
    | true =>
      simp only [if_true] at h
      unfold seqF at h
      obtain ⟨f1, hf, h⟩ := Option.bind_eq_some_iff.mp h
      have k1 := hb st f1 hf sl hm
      cases f1 with
      | nx st1 =>
        obtain ⟨s2, e2, m2⟩ := k1
        have ih := wh_run hc hb n st1 fl h s2 m2
        have e4 : (fun ss => whD (fun sl ss => toB (ev c sl ss)) (fun sl ss => exs cs sl ss) (n + 1) sl ss) = fun ss => whD (fun sl ss => toB (ev c sl ss)) (fun sl ss => exs cs sl ss) n s2 ss := funext fun ss => by
          conv => lhs; unfold whD
          rw [(hc st).toB hb2 hm]
          simp only [Option.bind_some, if_true]
          have := e2 ss
          simp only at this
          rw [this]
        rw [e4]
        exact ih
      | rt d1 =>
        cases h
        intro ss
        have k1 : exs cs sl ss = some (.rt (mr d1) ss) := k1 ss
        show whD _ _ (n + 1) sl ss = _
        unfold whD
        rw [(hc st).toB hb2 hm]
        simp only [Option.bind_some, if_true]
        rw [k1]
theorem ts_whl {inv : σ → List Pt} {st0 : σ} {oc : σ → Option Bool} {f : σ → Option (Fl σ)} (h0 : Wkn ps (inv st0)) (hc : ∀ st, PB c (inv st) (oc st)) (hb : ∀ st, TL cs (inv st) (f st) inv mr) : TS (.whl c cs) ps (whF oc f FUEL st0) inv mr := fun fl q sl hm => wh_run hc hb FUEL st0 fl q sl (h0.mt hm)
theorem whF_of {oc : σ → Option Bool} {f : σ → Option σ} : ∀ (n : Nat) (st : σ), whF oc (fun st => (f st).bind fun st => some (.nx st)) n st = (whS oc f n st).bind fun st => some (.nx st)
  | 0, st => rfl
  | n + 1, st => by
    unfold whF whS seqF
    cases oc st with
    | none => rfl
    | some b =>
      cases b with
      | false => rfl
      | true =>
        simp only [Option.bind_some, if_true]
        cases f st with
        | none => rfl
        | some s1 => exact whF_of n s1
theorem tl_of {o : Option σ} (h : NL cs ps o post) : TL cs ps (o.bind fun st => some (.nx st)) post mr := fun fl q sl hm => by
  obtain ⟨st, hs, q⟩ := Option.bind_eq_some_iff.mp q
  cases q
  exact h st hs sl hm
theorem ns_whl {inv : σ → List Pt} {st0 : σ} {oc : σ → Option Bool} {f : σ → Option σ} (h0 : Wkn ps (inv st0)) (hc : ∀ st, PB c (inv st) (oc st)) (hb : ∀ st, NL cs (inv st) (f st) inv) : NS (.whl c cs) ps (whS oc f FUEL st0) inv := ns_of (mr := .v) (by
  rw [← whF_of]
  exact ts_whl h0 hc fun st => tl_of (hb st))
/-! a def -/
def rtS (o : Option (Fl Unit)) : Option D := o.map fun fl => match fl with
  | .rt d => d
  | .nx _ => .none
theorem fn_ok {np n : Nat} {as : List D} {o : Option (Fl Unit)} (hn : as.length = np) (h : TL cs (startP n as) o (fun _ => startP 0 [] ++ List.replicate (np + n) .j) mr) (h0 : mr .none = .v .none) {d : D} (hd : rtS o = some d) (ss : SS) : runF np (np + n) cs (as.map .v) ss = some (mr d, ss) := by
  obtain ⟨fl, hf, rfl⟩ := Option.map_eq_some_iff.mp hd
  rw [runF_eq (by simpa using hn), show np + n - np = n by omega]
  have k := h fl hf _ (mt_start as n)
  cases fl with
  | nx st =>
    obtain ⟨s1, e1, _⟩ := k
    have e1' := e1 ss
    dsimp only at e1'
    rw [e1']
    show _ = some (mr .none, ss)
    rw [h0]; rfl
  | rt d =>
    have k' := k ss
    dsimp only at k'
    rw [k']; rfl
/-- all ways end with a return -/
def VL (cs : List CS) (ps : List Pt) (o : Option D) (mr : D → R) : Prop := ∀ d, o = some d → ∀ sl, Mt ps sl → ∀ ss, exs cs sl ss = some (.rt (mr d) ss)
theorem vl_nx {mid : τ → List Pt} {o : Option τ} {f : τ → Option D} (h1 : NS s ps o mid) (h2 : ∀ st, VL cs (mid st) (f st) mr) : VL (s :: cs) ps (o.bind f) mr := fun fl h sl hm ss => by
  obtain ⟨st, hst, h⟩ := Option.bind_eq_some_iff.mp h
  obtain ⟨s1, e1, m1⟩ := h1 st hst sl hm
  rw [seq_nx (e1 ss)]
  exact h2 st fl h s1 m1 ss
def retF (o : Option (Fl τ)) (f : τ → Option D) : Option D := o.bind fun fl => match fl with
  | .nx st => f st
  | .rt d => some d
theorem vl_fl {mid : τ → List Pt} {o : Option (Fl τ)} {f : τ → Option D} (h1 : TS s ps o mid mr) (h2 : ∀ st, VL cs (mid st) (f st) mr) : VL (s :: cs) ps (retF o f) mr := fun fl h sl hm ss => by
  unfold retF at h
  obtain ⟨f1, hf, h⟩ := Option.bind_eq_some_iff.mp h
  have q := h1 f1 hf sl hm
  cases f1 with
  | nx st =>
    obtain ⟨s1, e1, m1⟩ := q
    have e1' := e1 ss
    dsimp only at e1'
    rw [seq_nx e1']
    exact h2 st fl h s1 m1 ss
  | rt d =>
    cases h
    exact exs_rt (q ss)
theorem vl_wk (w : Wkn ps qs) {o : Option D} (h : VL cs qs o mr) : VL cs ps o mr := fun fl q sl hm => h fl q sl (w.mt hm)
theorem vl_ret [Rtm m mr] (h : PE m e ps oe) : VL (.ret e :: cs) ps oe mr := fun d hd sl hm ss => by
  refine exs_rt ?_
  rw [x_ret, h d hd sl hm ss]
  simp [O.f, Rtm.rt]
theorem vl_retn : VL (.retn :: cs) ps (some .none) .v := fun d hd sl hm ss => by cases hd; exact exs_rt rfl
theorem vl_retnC : VL (.retn :: cs) ps (some .none) canR := fun d hd sl hm ss => by cases hd; exact exs_rt rfl
theorem vl_never : VL (.never :: cs) ps none mr := fun fl q => by cases q
theorem vl_ite {ks : List CS} {o1 o2 : Option D} (hc : PB c ps pc) (h1 : VL (cs ++ ks) ps o1 mr) (h2 : VL (ds ++ ks) ps o2 mr) : VL (.ite c cs ds :: ks) ps (pc.bind fun b => if b then o1 else o2) mr := fun fl q sl hm ss => by
  obtain ⟨b, hb, q⟩ := Option.bind_eq_some_iff.mp q
  have key : exs (.ite c cs ds :: ks) sl ss = exs ((if b then cs else ds) ++ ks) sl ss := by
    rw [exs_cons, x_ite, hc.toB hb hm, exs_appM]
    cases b <;> rfl
  rw [key]
  cases b with
  | true => exact h1 fl q sl hm ss
  | false => exact h2 fl q sl hm ss
theorem vl_exp {o : Option D} (h : VL cs ps o mr) : VL (.exp .nop :: cs) ps o mr := fun fl q sl hm ss => by
  rw [seq_nx (s := .exp .nop) (sl' := sl) (ss' := ss) rfl]
  exact h fl q sl hm ss
theorem vl_frz {o : Option D} (hp : ps[i]? = some (.c d)) (h : VL cs (ps.set i (.v d)) o mr) : VL (.frz i :: cs) ps o mr := fun fl q sl hm ss => by
  rw [seq_nx (x_frz i sl ss)]
  exact h fl q _ (fz_mt hm hp) ss
theorem fv_ok {np n N : Nat} {as : List D} {o : Option D} (hn : as.length = np) (hN : np + n = N) (h : VL cs (startP n as) o mr) {d : D} (hd : o = some d) (ss : SS) : runF np N cs (as.map .v) ss = some (mr d, ss) := by
  subst hN
  rw [runF_eq (by simpa using hn), show np + n - np = n by omega, h d hd _ (mt_start as n) ss]
  rfl
end
end Pm
namespace Pm
open PySem
theorem ltl {i n : Nat} (h : Nat.ble (i + 1) n = true) : i < n := Nat.le_of_ble_eq_true h
abbrev addS := binS .add
abbrev subS := binS .sub
abbrev mulS := binS .mul
abbrev fdivS := binS .fdiv
abbrev modS := binS .mod
abbrev powS := binS .pow
section
variable {σ : Type} {m : D → R} {p : D → Pt} {mr : D → R} {e : CE} {ps : List Pt} {oe : Option D} {i : Nat} {s : CS} {mid q : σ → List Pt}
theorem pb_litb (b : Bool) : PB (.lit (.bool b)) ps (some b) := fun _ h _ _ _ => by cases h; rfl
theorem ns_setU [Stm m p] (h : PE m e ps oe) (hi : i < ps.length) : NS (.set i e) ps oe (fun d => ps.set i (p d)) := ns_set h hi fun _ => rfl
theorem ns_eq {o : Option σ} (h : NS s ps o mid) (hq : ∀ st, mid st = q st) : NS s ps o q := by
  rw [← funext hq]; exact h
theorem ts_eq {o : Option (Fl σ)} (h : TS s ps o mid mr) (hq : ∀ st, mid st = q st) : TS s ps o q mr := by
  rw [← funext hq]; exact h
end
end Pm
/-! code that draws: what holds whatever is drawn -/
namespace Pm
open PySem
structure Alg where
  A : Type
  bad : A
  pk : Int → (D → A) → A
  H : A → Prop
  hbad : ¬ H bad
  hpk : ∀ n k, H (pk n k) → ∀ i, 0 ≤ i → i < max 1 n → H (k (.int i))
def propA : Alg where
  A := Prop
  bad := False
  pk := fun n k => ∀ i, 0 ≤ i → i < max 1 n → k (.int i)
  H := fun p => p
  hbad := fun h => h
  hpk := fun _ _ h => h
def upTo (k : D → Bool) : Nat → Bool
  | 0 => true
  | n + 1 => upTo k n && k (.int n)
theorem upTo_ok {k : D → Bool} : ∀ {n : Nat}, upTo k n = true → ∀ i : Nat, i < n → k (.int i) = true
  | 0, _, i, h => by omega
  | n + 1, e, i, h => by
    unfold upTo at e
    rw [Bool.and_eq_true] at e
    by_cases q : i = n
    · subst q; exact e.2
    · exact upTo_ok e.1 i (by omega)
def boolA : Alg where
  A := Bool
  bad := false
  pk := fun n k => upTo k (max 1 n).toNat
  H := fun p => p = true
  hbad := fun h => by cases h
  hpk := fun n k h i h0 h1 => by
    have := upTo_ok h i.toNat (by omega)
    rwa [Int.toNat_of_nonneg h0] at this
@[irreducible] def lW {α : Type} (M : Alg) (o : Option α) (k : α → M.A) : M.A := match o with
  | some a => k a
  | none => M.bad
variable {M : Alg} {σ τ : Type}
theorem lW_ok {α : Type} {o : Option α} {k : α → M.A} (h : M.H (lW M o k)) : ∃ a, o = some a ∧ M.H (k a) := by
  unfold lW at h
  cases o with
  | none => exact (M.hbad h).elim
  | some a => exact ⟨a, rfl, h⟩
abbrev Wt (M : Alg) (α : Type) := (α → M.A) → M.A
def WE (M : Alg) (m : D → R) (e : CE) (ps : List Pt) (W : Wt M D) : Prop := ∀ Q, M.H (W Q) → ∀ sl, Mt ps sl → ∀ ss, SSok ss → ∃ d ss', ev e sl ss = some (m d, ss') ∧ SSok ss' ∧ M.H (Q d)
def WB (M : Alg) (e : CE) (ps : List Pt) (W : Wt M Bool) : Prop := ∀ Q, M.H (W Q) → ∀ sl, Mt ps sl → ∀ ss, SSok ss → ∃ d ss', ev e sl ss = some (bl d, ss') ∧ SSok ss' ∧ M.H (Q d)
def WI (M : Alg) (e : CE) (ps : List Pt) (W : Wt M (List D)) : Prop := ∀ Q, M.H (W Q) → ∀ sl, Mt ps sl → ∀ ss, SSok ss → ∃ d ss', toI (ev e sl ss) = some (d, ss') ∧ SSok ss' ∧ M.H (Q d)
section
variable {m m1 m2 m3 mr : D → R} {p p1 p2 p3 : D → Pt} {e a b c a1 a2 a3 it elt kc : CE} {ps qs rs : List Pt} {o oa ob oc oe ok : Option D} {oi : Option (List D)} {i j k n : Nat} {d x y : D} {t : TGt} {pc : Option Bool} {cs ds : List CS} {s : CS} {post mid : σ → List Pt} {es : List CE}
theorem we_p (h : PE m e ps o) : WE M m e ps (fun Q => lW M o Q) := fun Q hq sl hm ss ok => by
  obtain ⟨d, hd, k⟩ := lW_ok hq
  exact ⟨d, ss, h d hd sl hm ss, ok, k⟩
theorem wb_p (h : PB e ps pc) : WB M e ps (fun Q => lW M pc Q) := fun Q hq sl hm ss ok => by
  obtain ⟨d, hd, k⟩ := lW_ok hq
  exact ⟨d, ss, h d hd sl hm ss, ok, k⟩
theorem wi_p (h : PI e ps oi) : WI M e ps (fun Q => lW M oi Q) := fun Q hq sl hm ss ok => by
  obtain ⟨d, hd, k⟩ := lW_ok hq
  exact ⟨d, ss, h d hd sl hm ss, ok, k⟩
theorem we_toD [Rdm m] {x : O R} {d : D} {ss : SS} (h : x = some (m d, ss)) : toD x = some (d, ss) := by rw [h]; simp [toD, O.f, Rdm.rd]
theorem we_toE [Esm m] {x : O R} {d : D} {ss : SS} (h : x = some (m d, ss)) : toE x = some (d, ss) := by rw [h]; simp [toE, O.f, Esm.esc]
theorem wb_toB {x : O R} {d : Bool} {ss : SS} (h : x = some (bl d, ss)) : toB x = some (d, ss) := by rw [h]; rfl
theorem wb_of {W : Wt M D} [Rdm m] (h : WE M m e ps W) : WB M e ps (fun Q => W fun x => lW M (boolS x) Q) := fun Q hq sl hm ss ok => by
  obtain ⟨d, s1, e1, ok1, k⟩ := h _ hq sl hm ss ok
  obtain ⟨b, hb, k⟩ := lW_ok k
  cases d <;> simp [boolS] at hb
  subst hb
  exact ⟨_, s1, by rw [e1, Rdm.nl (m := m) _ rfl]; rfl, ok1, k⟩
theorem we_of {W : Wt M Bool} (h : WB M e ps W) : WE M .v e ps (fun Q => W fun x => Q (.bool x)) := fun Q hq sl hm ss ok => by
  obtain ⟨d, s1, e1, ok1, k⟩ := h _ hq sl hm ss ok
  exact ⟨_, s1, e1, ok1, k⟩
theorem wi_of {W : Wt M D} [Rdm m] (h : WE M m e ps W) : WI M e ps (fun Q => W fun x => lW M (seqOf x) Q) := fun Q hq sl hm ss ok => by
  obtain ⟨d, s1, e1, ok1, k⟩ := h _ hq sl hm ss ok
  obtain ⟨b, hb, k⟩ := lW_ok k
  refine ⟨_, s1, ?_, ok1, k⟩
  rw [e1]
  have := Rdm.rd (m := m) d
  cases d <;> simp [seqOf] at hb <;> subst hb <;> (cases q : m _ <;> rw [q] at this <;> simp [rd] at this <;> simp [toI, O.f, itR, rd, seqOf, this])
/-! draws -/
@[irreducible] def pickW (M : Alg) (n : D) (Q : D → M.A) : M.A := match n with
  | .int n => if n < 18446744073709551616 then M.pk n Q else M.bad
  | _ => M.bad
theorem we_pick {nm : Str} {F : Fn} {W : Wt M D} [Rdm m] (hF : F = F_pick) (hs : ps[i]? = some .s) (h : WE M m e ps W) : WE M .v (.call nm F [.loc i, e]) ps (fun Q => W fun x => pickW M x Q) := fun Q hq sl hm ss ok => by
  obtain ⟨d, s1, e1, ok1, k⟩ := h _ hq sl hm ss ok
  cases d <;> simp only [pickW] at k <;> try exact (M.hbad k).elim
  rename_i n
  split at k
  case isFalse => exact (M.hbad k).elim
  case isTrue hn =>
  obtain ⟨r, s2, e2, ok2, r0, r1⟩ := pick_ok n hn s1 ok1
  obtain ⟨sv, g1, g2⟩ := hm.get hs
  cases g2
  refine ⟨.int r, s2, ?_, ok2, M.hpk n Q k r r0 r1⟩
  subst hF
  rw [e_call, es_cons]
  have q1 : ev (.loc i) sl ss = some (.src, ss) := by simp [ev, getR, g1, slR]
  rw [q1]
  simp only [Option.bind_some, es_cons, e1, es_nil, callD, toAs, Rdm.a, Option.map_some]
  simp [toA, e2, isOut, R.lf, Pm.lf]
def mixA (M : Alg) : Nat → List D → List D → (D → M.A) → M.A
  | 0, _, acc, Q => Q (.list acc.reverse)
  | n + 1, xs, acc, Q => M.pk xs.length fun k => lW M (popAt false xs k) fun q => mixA M n q.2 (q.1 :: acc) Q
@[irreducible] def mixW (M : Alg) (d : D) (Q : D → M.A) : M.A := lW M (seqOf d) fun xs => if xs.length ≤ SL then mixA M xs.length xs [] Q else M.bad
theorem mixA_ok {Q : D → M.A} : ∀ (n : Nat) (xs acc : List D) (ss : SS), xs.length ≤ SL → n ≤ xs.length → M.H (mixA M n xs acc Q) → SSok ss → ∃ ys ss', mixD F_pick n xs ss = some (ys, ss') ∧ SSok ss' ∧ M.H (Q (.list (acc.reverse ++ ys)))
  | 0, xs, acc, ss, _, _, h, ok => ⟨[], ss, rfl, ok, by simpa [mixA] using h⟩
  | n + 1, xs, acc, ss, hl, hn, h, ok => by
    have hS : SL = 16777216 := rfl
    obtain ⟨r, s1, e1, ok1, r0, r1⟩ := pick_ok xs.length (by omega) ss ok
    have k := M.hpk _ _ h r r0 r1
    obtain ⟨q, hq, k⟩ := lW_ok k
    have hq2 : q.2.length + 1 = xs.length := by
      unfold popAt at hq
      simp only at hq
      split at hq
      · obtain ⟨j, hj, hq⟩ := Option.bind_eq_some_iff.mp hq
        obtain ⟨z, hz, rfl⟩ := Option.map_eq_some_iff.mp hq
        have := (List.getElem?_eq_some_iff.mp hz).1
        rw [List.length_eraseIdx_of_lt this]
        omega
      · cases hq
    obtain ⟨ys, s2, e2, ok2, k2⟩ := mixA_ok n q.2 (q.1 :: acc) s1 (by omega) (by omega) k ok1
    refine ⟨q.1 :: ys, s2, ?_, ok2, by simpa using k2⟩
    unfold mixD
    rw [e1]
    simp only [Option.bind_some, hq, e2, Option.map_some]
theorem mixW_ok {d : D} {Q : D → M.A} (h : M.H (mixW M d Q)) (ss : SS) (ok : SSok ss) : ∃ ys ss', F_mixed [.src, .v d] ss = some (canR (.list ys), ss') ∧ SSok ss' ∧ M.H (Q (.list ys)) := by
  unfold mixW at h
  obtain ⟨xs, hx, k⟩ := lW_ok h
  split at k
  case isFalse => exact (M.hbad k).elim
  case isTrue hl =>
  obtain ⟨ys, s1, e1, ok1, k1⟩ := mixA_ok xs.length xs [] ss hl (Nat.le_refl _) k ok
  refine ⟨ys, s1, ?_, ok1, by simpa using k1⟩
  refine (runF_eq (np := 2) (N := 4) (body := B_mixed) (args := [.src, .v d]) rfl).trans ?_
  have hb : ev (.bi .list [(.loc 1)]) [.src, .v d, .un, .un] ss = some (.fr xs, ss) := by
    simp [ev, evs, getR, slR, toDs, O.f, rds, rd, biD, listD, hx]
  have h1 : ex (.set 2 (.bi .list [(.loc 1)])) [.src, .v d, .un, .un] ss = some (.nx [.src, .v d, .own xs, .un] ss) := by
    rw [x_set, hb]; rfl
  show outF (exs B_mixed [.src, .v d, .un, .un] ss) = _
  unfold B_mixed
  rw [exs_nx h1]
  have h2 : ex (.rmix 2 0 3 "_law_pick" F_pick) [.src, .v d, .own xs, .un] ss = some (.rt (.fr ys) s1) := by
    show (if xs.length ≤ SL ∧ 3 ≠ 2 ∧ 3 ≠ 0 then (mixD F_pick xs.length xs ss).map fun p => Out.rt (.fr p.1) p.2 else none) = _
    rw [if_pos ⟨hl, by decide, by decide⟩, e1]
    rfl
  rw [exs_rt h2]; rfl
theorem we_mixed {nm : Str} {F : Fn} {W : Wt M D} [Esm m] (hF : F = F_mixed) (hs : ps[i]? = some .s) (h : WE M m e ps W) : WE M canR (.call nm F [.loc i, e]) ps (fun Q => W fun x => mixW M x Q) := fun Q hq sl hm ss ok => by
  obtain ⟨d, s1, e1, ok1, k⟩ := h _ hq sl hm ss ok
  obtain ⟨ys, s2, e2, ok2, k2⟩ := mixW_ok k s1 ok1
  obtain ⟨sv, g1, g2⟩ := hm.get hs
  cases g2
  refine ⟨.list ys, s2, ?_, ok2, k2⟩
  subst hF
  rw [e_call, es_cons]
  have q1 : ev (.loc i) sl ss = some (.src, ss) := by simp [ev, getR, g1, slR]
  rw [q1]
  simp only [Option.bind_some, es_cons, e1, es_nil, callD, toAs, show toA R.src = some AV.src from rfl, Rdm.a, Option.map_some, e2, List.any_cons, List.any_nil, Esm.nb, show isBo R.src = false from rfl, Esm.out, Bool.or_self, Bool.false_eq_true, false_implies, and_self, if_true]
/-! operations -/
theorem we_bin {op : BOp} {Wa Wb : Wt M D} [Rdm m1] [Rdm m2] (h1 : WE M m1 a ps Wa) (h2 : WE M m2 b ps Wb) : WE M canR (.bin op a b) ps (fun Q => Wa fun x => Wb fun y => lW M (binS op x y) Q) := fun Q hq sl hm ss ok => by
  obtain ⟨x, s1, e1, ok1, k⟩ := h1 _ hq sl hm ss ok
  obtain ⟨y, s2, e2, ok2, k⟩ := h2 _ k sl hm s1 ok1
  obtain ⟨z, hz, k⟩ := lW_ok k
  refine ⟨z, s2, ?_, ok2, k⟩
  rw [e_bin, we_toD e1]
  simp only [Option.bind_some, we_toD e2, binS_ok hz, Option.map_some]
theorem we_idx {Wa Wb : Wt M D} [Rdm m1] [Rdm m2] (h1 : WE M m1 a ps Wa) (h2 : WE M m2 b ps Wb) : WE M .v (.idx a b) ps (fun Q => Wa fun x => Wb fun y => lW M (idxD x y) Q) := fun Q hq sl hm ss ok => by
  obtain ⟨x, s1, e1, ok1, k⟩ := h1 _ hq sl hm ss ok
  obtain ⟨y, s2, e2, ok2, k⟩ := h2 _ k sl hm s1 ok1
  obtain ⟨z, hz, k⟩ := lW_ok k
  refine ⟨z, s2, ?_, ok2, k⟩
  rw [e_idx, we_toD e1]
  simp only [Option.bind_some, we_toD e2, hz, Option.map_some]
def WP (M : Alg) (e : CE) (ps : List Pt) (W : Wt M D) : Prop := ∀ Q, M.H (W Q) → ∀ sl, Mt ps sl → ∀ ss, SSok ss → ∃ d ss', toP e (ev e sl ss) = some (d, ss') ∧ SSok ss' ∧ M.H (Q d)
theorem wp_nop : WP M .nop ps (fun Q => Q .none) := fun Q hq sl hm ss ok => ⟨_, ss, rfl, ok, hq⟩
theorem wp_e {W : Wt M D} [Rdm m] (hn : isNop e = false) (h : WE M m e ps W) : WP M e ps (fun Q => W fun x => lW M (intS x) Q) := fun Q hq sl hm ss ok => by
  obtain ⟨x, s1, e1, ok1, k⟩ := h _ hq sl hm ss ok
  obtain ⟨z, hz, k⟩ := lW_ok k
  cases x <;> simp [intS] at hz
  subst hz
  exact ⟨_, s1, by rw [e1]; simp [toP, hn, O.f, rdInt, Rdm.rd], ok1, k⟩
theorem we_sli {Wa Wb Wc : Wt M D} [Rdm m] (h1 : WE M m a ps Wa) (h2 : WP M b ps Wb) (h3 : WP M c ps Wc) : WE M canR (.sli a b c) ps (fun Q => Wa fun x => Wb fun y => Wc fun z => lW M (sliS x y z) Q) := fun Q hq sl hm ss ok => by
  obtain ⟨x, s1, e1, ok1, k⟩ := h1 _ hq sl hm ss ok
  obtain ⟨y, s2, e2, ok2, k⟩ := h2 _ k sl hm s1 ok1
  obtain ⟨z, s3, e3, ok3, k⟩ := h3 _ k sl hm s2 ok2
  obtain ⟨w, hw, k⟩ := lW_ok k
  refine ⟨w, s3, ?_, ok3, k⟩
  rw [e_sli, we_toD e1]
  simp only [Option.bind_some, e2, e3, sliS_ok hw, Option.map_some]
theorem we_rev {Wa : Wt M D} [Rdm m] (h1 : WE M m a ps Wa) : WE M canR (.rev a) ps (fun Q => Wa fun x => lW M (revS x) Q) := fun Q hq sl hm ss ok => by
  obtain ⟨x, s1, e1, ok1, k⟩ := h1 _ hq sl hm ss ok
  obtain ⟨w, hw, k⟩ := lW_ok k
  refine ⟨w, s1, ?_, ok1, k⟩
  rw [e_rev, we_toD e1]
  unfold revS revD at hw
  split at hw <;> simp [rd] at hw <;> subst hw <;> rfl
theorem we_bi1 {f : Bi} {Wa : Wt M D} [Rdm m] (h1 : WE M m a ps Wa) : WE M canR (.bi f [a]) ps (fun Q => Wa fun x => lW M (biS f [x]) Q) := fun Q hq sl hm ss ok => by
  obtain ⟨x, s1, e1, ok1, k⟩ := h1 _ hq sl hm ss ok
  obtain ⟨w, hw, k⟩ := lW_ok k
  refine ⟨w, s1, ?_, ok1, k⟩
  rw [e_bi, es_cons, e1]
  simp only [Option.bind_some, es_nil, toDs, O.f, rds, Rdm.rd, Option.map_some, (biS_ok hw).1]
theorem we_bi1n {f : Bi} {Wa : Wt M D} [Rdm m] (hn : nlBi f = true) (h1 : WE M m a ps Wa) : WE M .v (.bi f [a]) ps (fun Q => Wa fun x => lW M (biS f [x]) Q) := fun Q hq sl hm ss ok => by
  obtain ⟨x, s1, e1, ok1, k⟩ := h1 _ hq sl hm ss ok
  obtain ⟨w, hw, k⟩ := lW_ok k
  refine ⟨w, s1, ?_, ok1, k⟩
  rw [e_bi, es_cons, e1]
  simp only [Option.bind_some, es_nil, toDs, O.f, rds, Rdm.rd, Option.map_some, (biS_ok hw).1, nlR ((biS_ok hw).2 hn)]
theorem we_bi2n {f : Bi} {Wa Wb : Wt M D} [Rdm m1] [Rdm m2] (hn : nlBi f = true) (h1 : WE M m1 a ps Wa) (h2 : WE M m2 b ps Wb) : WE M .v (.bi f [a, b]) ps (fun Q => Wa fun x => Wb fun y => lW M (biS f [x, y]) Q) := fun Q hq sl hm ss ok => by
  obtain ⟨x, s1, e1, ok1, k⟩ := h1 _ hq sl hm ss ok
  obtain ⟨y, s2, e2, ok2, k⟩ := h2 _ k sl hm s1 ok1
  obtain ⟨w, hw, k⟩ := lW_ok k
  refine ⟨w, s2, ?_, ok2, k⟩
  rw [e_bi, es_cons, e1]
  simp only [Option.bind_some, es_cons, e2, es_nil, toDs, O.f, rds, Rdm.rd, Option.map_some, (biS_ok hw).1, nlR ((biS_ok hw).2 hn)]
theorem wb_cmp {op : COp} {Wa Wb : Wt M D} [Rdm m1] [Rdm m2] (h1 : WE M m1 a ps Wa) (h2 : WE M m2 b ps Wb) : WB M (.cmp op a b) ps (fun Q => Wa fun x => Wb fun y => lW M (cmpD op x y) Q) := fun Q hq sl hm ss ok => by
  obtain ⟨x, s1, e1, ok1, k⟩ := h1 _ hq sl hm ss ok
  obtain ⟨y, s2, e2, ok2, k⟩ := h2 _ k sl hm s1 ok1
  obtain ⟨z, hz, k⟩ := lW_ok k
  refine ⟨z, s2, ?_, ok2, k⟩
  rw [e_cmp, we_toD e1]
  simp only [Option.bind_some, we_toD e2, hz, Option.map_some]
theorem wb_not {Wa : Wt M Bool} (h1 : WB M a ps Wa) : WB M (.not a) ps (fun Q => Wa fun x => Q (!x)) := fun Q hq sl hm ss ok => by
  obtain ⟨x, s1, e1, ok1, k⟩ := h1 _ hq sl hm ss ok
  refine ⟨_, s1, ?_, ok1, k⟩
  rw [e_not, wb_toB e1]; rfl
theorem wb_and {Wa Wb : Wt M Bool} (h1 : WB M a ps Wa) (h2 : WB M b ps Wb) : WB M (.and a b) ps (fun Q => Wa fun x => if x then Wb Q else Q false) := fun Q hq sl hm ss ok => by
  obtain ⟨x, s1, e1, ok1, k⟩ := h1 _ hq sl hm ss ok
  cases x with
  | false => exact ⟨_, s1, by rw [e_and, wb_toB e1]; rfl, ok1, k⟩
  | true =>
    obtain ⟨y, s2, e2, ok2, k⟩ := h2 _ k sl hm s1 ok1
    refine ⟨_, s2, ?_, ok2, k⟩
    rw [e_and, wb_toB e1]
    simp only [Option.bind_some, if_true, wb_toB e2]
theorem wb_or {Wa Wb : Wt M Bool} (h1 : WB M a ps Wa) (h2 : WB M b ps Wb) : WB M (.or a b) ps (fun Q => Wa fun x => if x then Q true else Wb Q) := fun Q hq sl hm ss ok => by
  obtain ⟨x, s1, e1, ok1, k⟩ := h1 _ hq sl hm ss ok
  cases x with
  | true => exact ⟨_, s1, by rw [e_or, wb_toB e1]; rfl, ok1, k⟩
  | false =>
    simp only [Bool.false_eq_true, if_false] at k
    obtain ⟨y, s2, e2, ok2, k⟩ := h2 _ k sl hm s1 ok1
    refine ⟨_, s2, ?_, ok2, k⟩
    rw [e_or, wb_toB e1]
    simp only [Option.bind_some, Bool.false_eq_true, if_false, wb_toB e2]
theorem we_ife {Wc : Wt M Bool} {Wa Wb : Wt M D} (hc : WB M c ps Wc) (h1 : WE M m a ps Wa) (h2 : WE M m b ps Wb) : WE M m (.ife c a b) ps (fun Q => Wc fun x => if x then Wa Q else Wb Q) := fun Q hq sl hm ss ok => by
  obtain ⟨x, s1, e1, ok1, k⟩ := hc _ hq sl hm ss ok
  cases x with
  | true =>
    obtain ⟨y, s2, e2, ok2, k⟩ := h1 _ k sl hm s1 ok1
    exact ⟨y, s2, by rw [e_ife, wb_toB e1]; exact e2, ok2, k⟩
  | false =>
    simp only [Bool.false_eq_true, if_false] at k
    obtain ⟨y, s2, e2, ok2, k⟩ := h2 _ k sl hm s1 ok1
    exact ⟨y, s2, by rw [e_ife, wb_toB e1]; exact e2, ok2, k⟩
/-! displays, arguments -/
def WX (M : Alg) (es : List CE) (ps : List Pt) (W : Wt M (List D)) : Prop := ∀ Q, M.H (W Q) → ∀ sl, Mt ps sl → ∀ ss, SSok ss → ∃ rs ds ss', evs es sl ss = some (rs, ss') ∧ dispR rs = some ds ∧ SSok ss' ∧ M.H (Q ds)
theorem wx_nil : WX M [] ps (fun Q => Q []) := fun Q hq sl hm ss ok => ⟨[], [], ss, rfl, rfl, ok, hq⟩
theorem wx_cons {Wa : Wt M D} {Wr : Wt M (List D)} [Esm m] (h1 : WE M m e ps Wa) (h2 : WX M es ps Wr) : WX M (e :: es) ps (fun Q => Wa fun x => Wr fun xs => Q (x :: xs)) := fun Q hq sl hm ss ok => by
  obtain ⟨x, s1, e1, ok1, k⟩ := h1 _ hq sl hm ss ok
  obtain ⟨rs, ds, s2, e2, g2, ok2, k⟩ := h2 _ k sl hm s1 ok1
  refine ⟨m x :: rs, x :: ds, s2, ?_, dispR_cons (Esm.esc x) g2, ok2, k⟩
  rw [es_cons, e1]
  simp only [Option.bind_some, e2]
theorem wx_star {Wa : Wt M (List D)} {Wr : Wt M (List D)} (h1 : WI M e ps Wa) (h2 : WX M es ps Wr) : WX M (.star e :: es) ps (fun Q => Wa fun x => Wr fun xs => Q (x ++ xs)) := fun Q hq sl hm ss ok => by
  obtain ⟨x, s1, e1, ok1, k⟩ := h1 _ hq sl hm ss ok
  obtain ⟨rs, ds, s2, e2, g2, ok2, k⟩ := h2 _ k sl hm s1 ok1
  refine ⟨.st x :: rs, x ++ ds, s2, ?_, by simp [dispR, g2], ok2, k⟩
  rw [es_cons, e_star, e1]
  simp only [Option.bind_some, e2]
theorem we_tup {W : Wt M (List D)} (h : WX M es ps W) : WE M .v (.tup es) ps (fun Q => W fun xs => lW M (shortS xs) fun xs => Q (.tuple xs)) := fun Q hq sl hm ss ok => by
  obtain ⟨rs, ds, s2, e2, g2, ok2, k⟩ := h _ hq sl hm ss ok
  obtain ⟨xs, hx, k⟩ := lW_ok k
  unfold shortS at hx
  split at hx
  case isFalse => cases hx
  case isTrue hl =>
  cases hx
  refine ⟨_, s2, ?_, ok2, k⟩
  rw [e_tup, e2]
  simp only [toX, O.f, Option.bind_some, g2, Option.map_some, if_pos hl]
theorem we_lst {W : Wt M (List D)} (h : WX M es ps W) : WE M canR (.lst es) ps (fun Q => W fun xs => lW M (shortS xs) fun xs => Q (.list xs)) := fun Q hq sl hm ss ok => by
  obtain ⟨rs, ds, s2, e2, g2, ok2, k⟩ := h _ hq sl hm ss ok
  obtain ⟨xs, hx, k⟩ := lW_ok k
  unfold shortS at hx
  split at hx
  case isFalse => cases hx
  case isTrue hl =>
  cases hx
  refine ⟨_, s2, ?_, ok2, k⟩
  rw [e_lst, e2]
  simp only [toX, O.f, Option.bind_some, g2, Option.map_some, if_pos hl, canR]
/-- arguments: values alone -/
def WA (M : Alg) (es : List CE) (ps : List Pt) (W : Wt M (List D)) : Prop := ∀ Q, M.H (W Q) → ∀ sl, Mt ps sl → ∀ ss, SSok ss → ∃ rs ds ss', evs es sl ss = some (rs, ss') ∧ toAs rs = some (ds.map .v) ∧ rs.any isBo = false ∧ SSok ss' ∧ M.H (Q ds)
theorem wa_nil : WA M [] ps (fun Q => Q []) := fun Q hq sl hm ss ok => ⟨[], [], ss, rfl, rfl, rfl, ok, hq⟩
theorem wa_cons {Wa : Wt M D} {Wr : Wt M (List D)} [Esm m] (h1 : WE M m e ps Wa) (h2 : WA M es ps Wr) : WA M (e :: es) ps (fun Q => Wa fun x => Wr fun xs => Q (x :: xs)) := fun Q hq sl hm ss ok => by
  obtain ⟨x, s1, e1, ok1, k⟩ := h1 _ hq sl hm ss ok
  obtain ⟨rs, ds, s2, e2, g2, g3, ok2, k⟩ := h2 _ k sl hm s1 ok1
  refine ⟨m x :: rs, x :: ds, s2, ?_, ?_, ?_, ok2, k⟩
  · rw [es_cons, e1]
    simp only [Option.bind_some, e2]
  · simp [toAs, Rdm.a, g2]
  · simp [Esm.nb, g3]
/-- a pure def, called -/
theorem we_pcall {nm : Str} {F : Fn} {g : List D → Option D} {W : Wt M (List D)} [Esm m] (hF : ∀ ds d, g ds = some d → ∀ ss, F (ds.map .v) ss = some (m d, ss)) (h : WA M es ps W) : WE M m (.call nm F es) ps (fun Q => W fun ds => lW M (g ds) Q) := fun Q hq sl hm ss ok => by
  obtain ⟨rs, ds, s2, e2, g2, g3, ok2, k⟩ := h _ hq sl hm ss ok
  obtain ⟨d, hd, k⟩ := lW_ok k
  refine ⟨d, s2, ?_, ok2, k⟩
  rw [e_call, e2]
  simp only [Option.bind_some, callD, g2, hF ds d hd s2, Esm.out, g3, Bool.false_eq_true, false_implies, and_self, if_true]
/-- a def that draws, called -/
theorem we_scall {nm : Str} {F : Fn} {w : List D → Wt M D} {W : Wt M (List D)} [Esm m] (hF : ∀ ds Q, M.H (w ds Q) → ∀ ss, SSok ss → ∃ d ss', F (.src :: ds.map .v) ss = some (m d, ss') ∧ SSok ss' ∧ M.H (Q d)) (hs : ps[i]? = some .s) (h : WA M es ps W) :
    WE M m (.call nm F (.loc i :: es)) ps (fun Q => W fun ds => w ds Q) := fun Q hq sl hm ss ok => by
  obtain ⟨rs, ds, s2, e2, g2, g3, ok2, k⟩ := h _ hq sl hm ss ok
  obtain ⟨d, s3, e3, ok3, k⟩ := hF ds Q k s2 ok2
  obtain ⟨sv, q1, q2⟩ := hm.get hs
  cases q2
  refine ⟨d, s3, ?_, ok3, k⟩
  have q1 : ev (.loc i) sl ss = some (.src, ss) := by simp [ev, getR, q1, slR]
  rw [e_call, es_cons, q1]
  simp only [Option.bind_some, e2, callD, toAs, show toA R.src = some AV.src from rfl, g2, Option.map_some, e3, Esm.out, List.any_cons, show isBo R.src = false from rfl, g3, Bool.or_self, Bool.false_eq_true, false_implies, and_self, if_true]
/-! comprehensions -/
def mapW (M : Alg) (f : D → Wt M D) : List D → List D → (D → M.A) → M.A
  | [], acc, Q => Q (.list acc.reverse)
  | d :: ds, acc, Q => f d fun y => mapW M f ds (y :: acc) Q
def WE1 (M : Alg) (t : TGt) (d : D) (ps : List Pt) (e : CE) (W : Wt M D) : Prop := ∀ Q, M.H (W Q) → ∀ sl, Mt ps sl → ∀ ss, SSok ss → ∃ sl' y ss', bindT t d sl = some sl' ∧ toE (ev e sl' ss) = some (y, ss') ∧ SSok ss' ∧ M.H (Q y)
theorem we1_bt {W : Wt M D} [Esm m] (h1 : BT t d ps qs) (h2 : WE M m e qs W) : WE1 M t d ps e W := fun Q hq sl hm ss ok => by
  obtain ⟨s1, e1, m1⟩ := h1 sl hm
  obtain ⟨y, s2, e2, ok2, k⟩ := h2 Q hq s1 m1 ss ok
  exact ⟨s1, y, s2, e1, we_toE e2, ok2, k⟩
theorem we_lc0 {f : D → Wt M D} {W : Wt M (List D)} (hi : WI M it ps W) (h : ∀ d, WE1 M t d (killP t.slots ps) elt (f d)) : WE M canR (.lc elt t it []) ps (fun Q => W fun xs => if xs.length ≤ SL then mapW M f xs [] Q else M.bad) := fun Q hq sl hm ss ok => by
  obtain ⟨xs, s1, e1, ok1, k⟩ := hi _ hq sl hm ss ok
  split at k
  case isFalse => exact (M.hbad k).elim
  case isTrue hl =>
  have key : ∀ (xs acc : List D) (ss : SS), M.H (mapW M f xs acc Q) → SSok ss → ∃ ys s2, lcD (lcB elt t [] sl) xs ss = some (ys, s2) ∧ SSok s2 ∧ M.H (Q (.list (acc.reverse ++ ys))) := by
    intro xs
    induction xs with
    | nil => intro acc ss h ok; exact ⟨[], ss, rfl, ok, by simpa [mapW] using h⟩
    | cons d ds ih =>
      intro acc ss hh ok
      obtain ⟨sl', y, s2, e2, e3, ok2, k2⟩ := h d _ hh _ (kill_mt hm) ss ok
      obtain ⟨ys, s3, e4, ok3, k3⟩ := ih (y :: acc) s2 k2 ok2
      refine ⟨y :: ys, s3, ?_, ok3, by simpa using k3⟩
      have : lcB elt t [] sl d ss = some (some y, s2) := by
        unfold lcB
        rw [e2]
        simp only [Option.bind_some, es_nil, toC, O.f, condR, Option.map_some, if_true]
        rw [e3]; rfl
      unfold lcD
      rw [this]
      simp only [e4, Option.map_some]
  obtain ⟨ys, s2, e2, ok2, k2⟩ := key xs [] s1 k ok1
  refine ⟨.list ys, s2, ?_, ok2, by simpa using k2⟩
  rw [ev_lc, e1]
  simp only [Option.bind_some, e2, if_pos hl, canR]
end
end Pm
/-! statements that draw -/
namespace Pm
open PySem
variable {M : Alg} {σ τ : Type}
def FlW (x : Option Out) (ss' : SS) (post : σ → List Pt) (mr : D → R) : Fl σ → Prop
  | .nx st => ∃ sl', x = some (.nx sl' ss') ∧ Mt (post st) sl'
  | .rt d => x = some (.rt (mr d) ss')
def WS (M : Alg) (c : CS) (ps : List Pt) (W : Wt M (Fl σ)) (post : σ → List Pt) (mr : D → R) : Prop := ∀ Q, M.H (W Q) → ∀ sl, Mt ps sl → ∀ ss, SSok ss → ∃ fl ss', SSok ss' ∧ M.H (Q fl) ∧ FlW (ex c sl ss) ss' post mr fl
def WL (M : Alg) (cs : List CS) (ps : List Pt) (W : Wt M (Fl σ)) (post : σ → List Pt) (mr : D → R) : Prop := ∀ Q, M.H (W Q) → ∀ sl, Mt ps sl → ∀ ss, SSok ss → ∃ fl ss', SSok ss' ∧ M.H (Q fl) ∧ FlW (exs cs sl ss) ss' post mr fl
/-- all ways end with a return -/
def WV (M : Alg) (cs : List CS) (ps : List Pt) (W : Wt M D) (mr : D → R) : Prop := ∀ Q, M.H (W Q) → ∀ sl, Mt ps sl → ∀ ss, SSok ss → ∃ d ss', SSok ss' ∧ M.H (Q d) ∧ exs cs sl ss = some (.rt (mr d) ss')
/-- no way ends with a return -/
def MS (M : Alg) (c : CS) (ps : List Pt) (W : Wt M σ) (post : σ → List Pt) : Prop := ∀ Q, M.H (W Q) → ∀ sl, Mt ps sl → ∀ ss, SSok ss → ∃ st sl' ss', SSok ss' ∧ M.H (Q st) ∧ ex c sl ss = some (.nx sl' ss') ∧ Mt (post st) sl'
def ML (M : Alg) (cs : List CS) (ps : List Pt) (W : Wt M σ) (post : σ → List Pt) : Prop := ∀ Q, M.H (W Q) → ∀ sl, Mt ps sl → ∀ ss, SSok ss → ∃ st sl' ss', SSok ss' ∧ M.H (Q st) ∧ exs cs sl ss = some (.nx sl' ss') ∧ Mt (post st) sl'
section
variable {m m1 m2 m3 mr : D → R} {p p1 p2 p3 : D → Pt} {e a b c a1 a2 a3 it elt kc : CE} {ps qs rs : List Pt} {o oa ob oc oe ok : Option D} {oi : Option (List D)} {i j k n : Nat} {d x y : D} {t : TGt} {pc : Option Bool} {cs ds ks : List CS} {s : CS} {post mid : σ → List Pt} {es : List CE}
/-! the end -/
theorem wl_nil {st : σ} (w : Wkn ps (post st)) : WL M [] ps (fun Q => Q (.nx st)) post mr := fun Q hq sl hm ss ok => ⟨.nx st, ss, ok, hq, sl, rfl, w.mt hm⟩
theorem ml_nil {st : σ} (w : Wkn ps (post st)) : ML M [] ps (fun Q => Q st) post := fun Q hq sl hm ss ok => ⟨st, sl, ss, ok, hq, rfl, w.mt hm⟩
/-! a statement that doesn't draw -/
theorem wl_nx {mid : τ → List Pt} {o : Option τ} {W : τ → Wt M (Fl σ)} (h1 : NS s ps o mid) (h2 : ∀ st, WL M cs (mid st) (W st) post mr) : WL M (s :: cs) ps (fun Q => lW M o fun st => W st Q) post mr := fun Q hq sl hm ss ok => by
  obtain ⟨st, hst, k⟩ := lW_ok hq
  obtain ⟨s1, e1, m1⟩ := h1 st hst sl hm
  rw [seq_nx (e1 ss)]
  exact h2 st Q k s1 m1 ss ok
theorem ml_nx {mid : τ → List Pt} {o : Option τ} {W : τ → Wt M σ} (h1 : NS s ps o mid) (h2 : ∀ st, ML M cs (mid st) (W st) post) : ML M (s :: cs) ps (fun Q => lW M o fun st => W st Q) post := fun Q hq sl hm ss ok => by
  obtain ⟨st, hst, k⟩ := lW_ok hq
  obtain ⟨s1, e1, m1⟩ := h1 st hst sl hm
  rw [seq_nx (e1 ss)]
  exact h2 st Q k s1 m1 ss ok
theorem wv_nx {mid : τ → List Pt} {o : Option τ} {W : τ → Wt M D} (h1 : NS s ps o mid) (h2 : ∀ st, WV M cs (mid st) (W st) mr) : WV M (s :: cs) ps (fun Q => lW M o fun st => W st Q) mr := fun Q hq sl hm ss ok => by
  obtain ⟨st, hst, k⟩ := lW_ok hq
  obtain ⟨s1, e1, m1⟩ := h1 st hst sl hm
  rw [seq_nx (e1 ss)]
  exact h2 st Q k s1 m1 ss ok
def flW (M : Alg) {α : Type} (W : τ → Wt M α) (r : D → α) (Q : α → M.A) : Fl τ → M.A
  | .nx st => W st Q
  | .rt d => Q (r d)
theorem wl_fl {mid : τ → List Pt} {o : Option (Fl τ)} {W : τ → Wt M (Fl σ)} (h1 : TS s ps o mid mr) (h2 : ∀ st, WL M cs (mid st) (W st) post mr) : WL M (s :: cs) ps (fun Q => lW M o (flW M W .rt Q)) post mr := fun Q hq sl hm ss ok => by
  obtain ⟨fl, hf, k⟩ := lW_ok hq
  have q := h1 fl hf sl hm
  cases fl with
  | nx st =>
    obtain ⟨s1, e1, m1⟩ := q
    have e1' := e1 ss
    dsimp only at e1'
    rw [seq_nx e1']
    exact h2 st Q k s1 m1 ss ok
  | rt d => exact ⟨.rt d, ss, ok, k, exs_rt (q ss)⟩
theorem wv_fl {mid : τ → List Pt} {o : Option (Fl τ)} {W : τ → Wt M D} (h1 : TS s ps o mid mr) (h2 : ∀ st, WV M cs (mid st) (W st) mr) : WV M (s :: cs) ps (fun Q => lW M o (flW M W id Q)) mr := fun Q hq sl hm ss ok => by
  obtain ⟨fl, hf, k⟩ := lW_ok hq
  have q := h1 fl hf sl hm
  cases fl with
  | nx st =>
    obtain ⟨s1, e1, m1⟩ := q
    have e1' := e1 ss
    dsimp only at e1'
    rw [seq_nx e1']
    exact h2 st Q k s1 m1 ss ok
  | rt d => exact ⟨d, ss, ok, k, exs_rt (q ss)⟩
/-! a statement that draws -/
theorem wl_m {mid : τ → List Pt} {W1 : Wt M τ} {W : τ → Wt M (Fl σ)} (h1 : MS M s ps W1 mid) (h2 : ∀ st, WL M cs (mid st) (W st) post mr) : WL M (s :: cs) ps (fun Q => W1 fun st => W st Q) post mr := fun Q hq sl hm ss ok => by
  obtain ⟨st, s1, ss1, ok1, k, e1, m1⟩ := h1 _ hq sl hm ss ok
  rw [seq_nx e1]
  exact h2 st Q k s1 m1 ss1 ok1
theorem ml_m {mid : τ → List Pt} {W1 : Wt M τ} {W : τ → Wt M σ} (h1 : MS M s ps W1 mid) (h2 : ∀ st, ML M cs (mid st) (W st) post) : ML M (s :: cs) ps (fun Q => W1 fun st => W st Q) post := fun Q hq sl hm ss ok => by
  obtain ⟨st, s1, ss1, ok1, k, e1, m1⟩ := h1 _ hq sl hm ss ok
  rw [seq_nx e1]
  exact h2 st Q k s1 m1 ss1 ok1
theorem wv_m {mid : τ → List Pt} {W1 : Wt M τ} {W : τ → Wt M D} (h1 : MS M s ps W1 mid) (h2 : ∀ st, WV M cs (mid st) (W st) mr) : WV M (s :: cs) ps (fun Q => W1 fun st => W st Q) mr := fun Q hq sl hm ss ok => by
  obtain ⟨st, s1, ss1, ok1, k, e1, m1⟩ := h1 _ hq sl hm ss ok
  rw [seq_nx e1]
  exact h2 st Q k s1 m1 ss1 ok1
theorem wl_s {mid : τ → List Pt} {W1 : Wt M (Fl τ)} {W : τ → Wt M (Fl σ)} (h1 : WS M s ps W1 mid mr) (h2 : ∀ st, WL M cs (mid st) (W st) post mr) : WL M (s :: cs) ps (fun Q => W1 (flW M W .rt Q)) post mr := fun Q hq sl hm ss ok => by
  obtain ⟨fl, ss1, ok1, k, q⟩ := h1 _ hq sl hm ss ok
  cases fl with
  | nx st =>
    obtain ⟨s1, e1, m1⟩ := q
    rw [seq_nx e1]
    exact h2 st Q k s1 m1 ss1 ok1
  | rt d => exact ⟨.rt d, ss1, ok1, k, exs_rt q⟩
theorem wv_s {mid : τ → List Pt} {W1 : Wt M (Fl τ)} {W : τ → Wt M D} (h1 : WS M s ps W1 mid mr) (h2 : ∀ st, WV M cs (mid st) (W st) mr) : WV M (s :: cs) ps (fun Q => W1 (flW M W id Q)) mr := fun Q hq sl hm ss ok => by
  obtain ⟨fl, ss1, ok1, k, q⟩ := h1 _ hq sl hm ss ok
  cases fl with
  | nx st =>
    obtain ⟨s1, e1, m1⟩ := q
    rw [seq_nx e1]
    exact h2 st Q k s1 m1 ss1 ok1
  | rt d => exact ⟨d, ss1, ok1, k, exs_rt q⟩
/-! returns -/
theorem wv_ret [Rtm m mr] {W : Wt M D} (h : WE M m e ps W) : WV M (.ret e :: cs) ps W mr := fun Q hq sl hm ss ok => by
  obtain ⟨d, s1, e1, ok1, k⟩ := h Q hq sl hm ss ok
  refine ⟨d, s1, ok1, k, exs_rt ?_⟩
  rw [x_ret, e1]
  simp [O.f, Rtm.rt]
theorem wl_ret [Rtm m mr] {W : Wt M D} (h : WE M m e ps W) : WL M (.ret e :: cs) ps (fun Q => W fun d => Q (.rt d)) post mr := fun Q hq sl hm ss ok => by
  obtain ⟨d, s1, e1, ok1, k⟩ := h _ hq sl hm ss ok
  refine ⟨.rt d, s1, ok1, k, exs_rt ?_⟩
  rw [x_ret, e1]
  simp [O.f, Rtm.rt]
theorem wv_exp {W : Wt M D} (h : WV M cs ps W mr) : WV M (.exp .nop :: cs) ps W mr := fun Q hq sl hm ss ok => by
  rw [seq_nx (s := .exp .nop) (sl' := sl) (ss' := ss) rfl]
  exact h Q hq sl hm ss ok
theorem wv_frz {W : Wt M D} (hp : ps[i]? = some (.c d)) (h : WV M cs (ps.set i (.v d)) W mr) : WV M (.frz i :: cs) ps W mr := fun Q hq sl hm ss ok => by
  rw [seq_nx (x_frz i sl ss)]
  exact h Q hq _ (fz_mt hm hp) ss ok
theorem wl_frz {W : Wt M (Fl σ)} (hp : ps[i]? = some (.c d)) (h : WL M cs (ps.set i (.v d)) W post mr) : WL M (.frz i :: cs) ps W post mr := fun Q hq sl hm ss ok => by
  rw [seq_nx (x_frz i sl ss)]
  exact h Q hq _ (fz_mt hm hp) ss ok
theorem ml_frz {W : Wt M σ} (hp : ps[i]? = some (.c d)) (h : ML M cs (ps.set i (.v d)) W post) : ML M (.frz i :: cs) ps W post := fun Q hq sl hm ss ok => by
  rw [seq_nx (x_frz i sl ss)]
  exact h Q hq _ (fz_mt hm hp) ss ok
/-! if -/
theorem ite_eq {bb : Bool} {sl : List SV} {ss ss1 : SS} (e1 : ev c sl ss = some (bl bb, ss1)) : exs (.ite c cs ds :: ks) sl ss = exs ((if bb then cs else ds) ++ ks) sl ss1 := by
  rw [exs_cons, x_ite, wb_toB e1, exs_appM]
  cases bb <;> rfl
theorem ite_eq1 {bb : Bool} {sl : List SV} {ss ss1 : SS} (e1 : ev c sl ss = some (bl bb, ss1)) : ex (.ite c cs ds) sl ss = exs (if bb then cs else ds) sl ss1 := by
  rw [x_ite, wb_toB e1]
  cases bb <;> rfl
theorem wv_ite {Wc : Wt M Bool} {W1 W2 : Wt M D} (hc : WB M c ps Wc) (h1 : WV M (cs ++ ks) ps W1 mr) (h2 : WV M (ds ++ ks) ps W2 mr) : WV M (.ite c cs ds :: ks) ps (fun Q => Wc fun b => if b then W1 Q else W2 Q) mr := fun Q hq sl hm ss ok => by
  obtain ⟨bb, ss1, e1, ok1, k⟩ := hc _ hq sl hm ss ok
  rw [ite_eq e1]
  cases bb with
  | true => exact h1 Q k sl hm ss1 ok1
  | false => exact h2 Q k sl hm ss1 ok1
theorem wl_ite {Wc : Wt M Bool} {W1 W2 : Wt M (Fl σ)} (hc : WB M c ps Wc) (h1 : WL M (cs ++ ks) ps W1 post mr) (h2 : WL M (ds ++ ks) ps W2 post mr) : WL M (.ite c cs ds :: ks) ps (fun Q => Wc fun b => if b then W1 Q else W2 Q) post mr := fun Q hq sl hm ss ok => by
  obtain ⟨bb, ss1, e1, ok1, k⟩ := hc _ hq sl hm ss ok
  rw [ite_eq e1]
  cases bb with
  | true => exact h1 Q k sl hm ss1 ok1
  | false => exact h2 Q k sl hm ss1 ok1
theorem ws_ite {Wc : Wt M Bool} {W1 W2 : Wt M (Fl σ)} (hc : WB M c ps Wc) (h1 : WL M cs ps W1 post mr) (h2 : WL M ds ps W2 post mr) : WS M (.ite c cs ds) ps (fun Q => Wc fun b => if b then W1 Q else W2 Q) post mr := fun Q hq sl hm ss ok => by
  obtain ⟨bb, ss1, e1, ok1, k⟩ := hc _ hq sl hm ss ok
  rw [ite_eq1 e1]
  cases bb with
  | true => exact h1 Q k sl hm ss1 ok1
  | false => exact h2 Q k sl hm ss1 ok1
theorem ms_ite {Wc : Wt M Bool} {W1 W2 : Wt M σ} (hc : WB M c ps Wc) (h1 : ML M cs ps W1 post) (h2 : ML M ds ps W2 post) : MS M (.ite c cs ds) ps (fun Q => Wc fun b => if b then W1 Q else W2 Q) post := fun Q hq sl hm ss ok => by
  obtain ⟨bb, ss1, e1, ok1, k⟩ := hc _ hq sl hm ss ok
  rw [ite_eq1 e1]
  cases bb with
  | true => exact h1 Q k sl hm ss1 ok1
  | false => exact h2 Q k sl hm ss1 ok1
theorem ms_eq {W : Wt M σ} {q : σ → List Pt} (h : MS M s ps W mid) (hq : ∀ st, mid st = q st) : MS M s ps W q := by rw [← funext hq]; exact h
theorem ws_eq {W : Wt M (Fl σ)} {q : σ → List Pt} (h : WS M s ps W mid mr) (hq : ∀ st, mid st = q st) : WS M s ps W q mr := by rw [← funext hq]; exact h
/-! single statements -/
theorem ms_set [Stm m p] {W : Wt M D} (h : WE M m e ps W) (hi : i < ps.length) : MS M (.set i e) ps W (fun d => ps.set i (p d)) := fun Q hq sl hm ss ok => by
  obtain ⟨d, s1, e1, ok1, k⟩ := h Q hq sl hm ss ok
  obtain ⟨sv, g1, g2⟩ := Stm.st (m := m) (p := p) d
  refine ⟨d, sl.set i sv, s1, ok1, k, ?_, hm.set g2⟩
  rw [x_set, e1]
  simp [toSet, g1, setS, hm.lt hi]
theorem ms_app [Esm m] {W : Wt M D} (hp : ps[i]? = some (.c x)) (h : WE M m e ps W) : MS M (.app i e) ps (fun Q => W fun y => lW M (appS x y) Q) (fun z => ps.set i (.c z)) := fun Q hq sl hm ss ok => by
  obtain ⟨y, s1, e1, ok1, k⟩ := h _ hq sl hm ss ok
  obtain ⟨z, hz, k⟩ := lW_ok k
  have hz0 := hz
  unfold appS at hz
  split at hz
  case h_2 => cases hz
  split at hz
  case isFalse => cases hz
  case isTrue hl =>
  cases hz
  refine ⟨_, _, s1, ok1, k, ?_, hm.set rfl⟩
  rw [x_app, we_toE e1]
  simp [own_at hp hm, ownL, hl, canS]
theorem ms_ext [Rdm m] {W : Wt M D} (hp : ps[i]? = some (.c x)) (h : WE M m e ps W) : MS M (.ext i e) ps (fun Q => W fun y => lW M (extS x y) Q) (fun z => ps.set i (.c z)) := fun Q hq sl hm ss ok => by
  obtain ⟨y, s1, e1, ok1, k⟩ := h _ hq sl hm ss ok
  obtain ⟨z, hz, k⟩ := lW_ok k
  unfold extS at hz
  split at hz
  case h_2 => cases hz
  split at hz
  case isFalse => cases hz
  case isTrue hl =>
  cases hz
  refine ⟨_, _, s1, ok1, k, ?_, hm.set rfl⟩
  rw [x_ext, we_toD e1]
  simp [own_at hp hm, ownL, hl, canS]
theorem ms_par2 [Stm m1 p1] [Stm m2 p2] {Wa Wb : Wt M D} (h1 : WE M m1 a1 ps Wa) (h2 : WE M m2 a2 ps Wb) (hi : i < ps.length) (hj : j < ps.length) : MS (σ := D × D) M (.par [i, j] [a1, a2]) ps (fun Q => Wa fun x => Wb fun y => Q (x, y)) (fun st => (ps.set i (p1 st.1)).set j (p2 st.2)) := fun Q hq sl hm ss ok => by
  obtain ⟨x, s1, e1, ok1, k⟩ := h1 _ hq sl hm ss ok
  obtain ⟨y, s2, e2, ok2, k⟩ := h2 _ k sl hm s1 ok1
  obtain ⟨v1, f1, f2⟩ := Stm.st (m := m1) (p := p1) x
  obtain ⟨v2, g1, g2⟩ := Stm.st (m := m2) (p := p2) y
  refine ⟨(x, y), (sl.set i v1).set j v2, s2, ok2, k, ?_, (hm.set f2).set g2⟩
  rw [x_par, es_cons, e1]
  simp only [Option.bind_some, es_cons, e2, es_nil, O.f, toSs2 f1 g1, Option.map_some, setAll, setS, hm.lt hi, if_true, List.length_set, hm.lt hj]
theorem ms_par3 [Stm m1 p1] [Stm m2 p2] [Stm m3 p3] {Wa Wb Wc : Wt M D} (h1 : WE M m1 a1 ps Wa) (h2 : WE M m2 a2 ps Wb) (h3 : WE M m3 a3 ps Wc) (hi : i < ps.length) (hj : j < ps.length) (hk : k < ps.length) : MS (σ := D × D × D) M (.par [i, j, k] [a1, a2, a3]) ps (fun Q => Wa fun x => Wb fun y => Wc fun z => Q (x, y, z)) (fun st => ((ps.set i (p1 st.1)).set j (p2 st.2.1)).set k (p3 st.2.2)) := fun Q hq sl hm ss ok => by
  obtain ⟨x, s1, e1, ok1, kk⟩ := h1 _ hq sl hm ss ok
  obtain ⟨y, s2, e2, ok2, kk⟩ := h2 _ kk sl hm s1 ok1
  obtain ⟨z, s3, e3, ok3, kk⟩ := h3 _ kk sl hm s2 ok2
  obtain ⟨v1, f1, f2⟩ := Stm.st (m := m1) (p := p1) x
  obtain ⟨v2, g1, g2⟩ := Stm.st (m := m2) (p := p2) y
  obtain ⟨v3, q1, q2⟩ := Stm.st (m := m3) (p := p3) z
  refine ⟨(x, y, z), ((sl.set i v1).set j v2).set k v3, s3, ok3, kk, ?_, ((hm.set f2).set g2).set q2⟩
  rw [x_par, es_cons, e1]
  simp only [Option.bind_some, es_cons, e2, e3, es_nil, O.f, toSs3 f1 g1 q1, Option.map_some, setAll, setS, hm.lt hi, if_true, List.length_set, hm.lt hj, hm.lt hk]
theorem ms_unp {f : D → Option σ} [Rdm m] {W : Wt M D} (h : WE M m e ps W) (hb : ∀ d st, f d = some st → BT t d ps (post st)) : MS M (.unp t e) ps (fun Q => W fun x => lW M (f x) Q) post := fun Q hq sl hm ss ok => by
  obtain ⟨x, s1, e1, ok1, k⟩ := h _ hq sl hm ss ok
  obtain ⟨st, hst, k⟩ := lW_ok k
  obtain ⟨sl', g1, g2⟩ := hb x st hst sl hm
  refine ⟨st, sl', s1, ok1, k, ?_, g2⟩
  rw [x_unp, we_toD e1]
  simp [g1]
theorem ms_unp2 [Rdm m] {W : Wt M D} (h : WE M m e ps W) (hi : i < ps.length) (hj : j < ps.length) : MS M (.unp (.tup [.one i, .one j]) e) ps (fun Q => W fun x => lW M (un2o x) Q) (fun st => (ps.set i (.v st.1)).set j (.v st.2)) := ms_unp (W := W) h fun d st q => by
  unfold un2o at q; split at q
  · cases q; exact bt_tup (bts_cons (bt_one hi) (bts_cons (bt_one (by simpa using hj)) bts_nil))
  · cases q
theorem ms_unp3 [Rdm m] {W : Wt M D} (h : WE M m e ps W) (hi : i < ps.length) (hj : j < ps.length) (hk : k < ps.length) : MS M (.unp (.tup [.one i, .one j, .one k]) e) ps (fun Q => W fun x => lW M (un3o x) Q) (fun st => ((ps.set i (.v st.1)).set j (.v st.2.1)).set k (.v st.2.2)) := ms_unp (W := W) h fun d st q => by
  unfold un3o at q; split at q
  · cases q; exact bt_tup (bts_cons (bt_one hi) (bts_cons (bt_one (by simpa using hj)) (bts_cons (bt_one (by simpa using hk)) bts_nil)))
  · cases q
theorem ms_sto [Esm m1] [Rdm m2] {W W2 : Wt M D} (hp : ps[i]? = some (.c x)) (h : WE M m1 e ps W) (h2 : WE M m2 kc ps W2) : MS M (.sto i kc e) ps (fun Q => W fun y => W2 fun k => lW M (stoS x k y) Q) (fun z => ps.set i (.c z)) := fun Q hq sl hm ss ok => by
  obtain ⟨y, s1, e1, ok1, k⟩ := h _ hq sl hm ss ok
  obtain ⟨kk, s2, e2, ok2, k⟩ := h2 _ k sl hm s1 ok1
  obtain ⟨z, hz, k⟩ := lW_ok k
  obtain ⟨sl', g1, mm⟩ := stoS_ok hp hz hm
  refine ⟨z, sl', s2, ok2, k, ?_, mm⟩
  rw [x_sto, we_toE e1]
  simp [we_toD e2, g1]
/-! for -/
def forW (M : Alg) (f : D → σ → Wt M (Fl σ)) : List D → σ → Wt M (Fl σ)
  | [], st, Q => Q (.nx st)
  | d :: ds, st, Q => f d st (flW M (forW M f ds) .rt Q)
def forM (M : Alg) (f : D → σ → Wt M σ) : List D → σ → Wt M σ
  | [], st, Q => Q st
  | d :: ds, st, Q => f d st fun st => forM M f ds st Q
/-- a turn's body behind its target -/
def XB (M : Alg) (t : TGt) (d : D) (cs : List CS) (ps : List Pt) (W : Wt M (Fl σ)) (post : σ → List Pt) (mr : D → R) : Prop := ∀ Q, M.H (W Q) → ∀ sl, Mt ps sl → ∀ ss, SSok ss → ∃ sl1 fl ss', bindT t d sl = some sl1 ∧ SSok ss' ∧ M.H (Q fl) ∧ FlW (exs cs sl1 ss) ss' post mr fl
theorem xb_bt {W : Wt M (Fl σ)} (h : BT t d ps qs) (h2 : WL M cs qs W post mr) : XB M t d cs ps W post mr := fun Q hq sl hm ss ok => by
  obtain ⟨s1, e1, m1⟩ := h sl hm
  obtain ⟨fl, s2, ok2, k, q⟩ := h2 Q hq s1 m1 ss ok
  exact ⟨s1, fl, s2, e1, ok2, k, q⟩
def unW2 (M : Alg) (d : D) {α : Type} (f : D → D → Wt M α) (Q : α → M.A) : M.A := match d with
  | .tuple [x, y] => f x y Q
  | _ => M.bad
def unW3 (M : Alg) (d : D) {α : Type} (f : D → D → D → Wt M α) (Q : α → M.A) : M.A := match d with
  | .tuple [x, y, z] => f x y z Q
  | _ => M.bad
theorem xb_un2 {f : D → D → Wt M (Fl σ)} (h : ∀ x y, XB M t (.tuple [x, y]) cs ps (f x y) post mr) : XB M t d cs ps (fun Q => unW2 M d f Q) post mr := fun Q hq => by
  unfold unW2 at hq
  split at hq
  · exact h _ _ Q hq
  · exact (M.hbad hq).elim
theorem xb_un3 {f : D → D → D → Wt M (Fl σ)} (h : ∀ x y z, XB M t (.tuple [x, y, z]) cs ps (f x y z) post mr) : XB M t d cs ps (fun Q => unW3 M d f Q) post mr := fun Q hq => by
  unfold unW3 at hq
  split at hq
  · exact h _ _ _ Q hq
  · exact (M.hbad hq).elim
theorem forw_run {ls : List Nat} {inv : σ → List Pt} {f : D → σ → Wt M (Fl σ)} (hl : ∀ st sl, Mt (inv st) sl → ls.all (isLock sl) = true) (hb : ∀ d st, XB M t d cs (inv st) (f d st) inv mr) : ∀ (xs : List D) (st : σ) (Q : Fl σ → M.A), M.H (forW M f xs st Q) → ∀ sl, Mt (inv st) sl → ∀ ss, SSok ss → ∃ fl ss', SSok ss' ∧ M.H (Q fl) ∧
    FlW (forD (fun d sl' ss => (bindT t d sl').bind fun sl' => keptLocks ls (exs cs sl' ss)) xs sl ss) ss' inv mr fl
  | [], st, Q, h, sl, hm, ss, ok => ⟨.nx st, ss, ok, h, sl, rfl, hm⟩
  | d :: ds, st, Q, h, sl, hm, ss, ok => by
    obtain ⟨s1, fl, ss1, e1, ok1, k, q⟩ := hb d st _ h sl hm ss ok
    cases fl with
    | nx st1 =>
      obtain ⟨s2, e2, m2⟩ := q
      have e3 : ((bindT t d sl).bind fun sl' => keptLocks ls (exs cs sl' ss)) = some (.nx s2 ss1) := by
        rw [e1]
        simp only [Option.bind_some, e2, keptLocks, hl st1 s2 m2, if_true]
      obtain ⟨fl, ss2, ok2, k2, q2⟩ := forw_run hl hb ds st1 Q k s2 m2 ss1 ok1
      refine ⟨fl, ss2, ok2, k2, ?_⟩
      have e4 : forD (fun d sl' ss => (bindT t d sl').bind fun sl' => keptLocks ls (exs cs sl' ss)) (d :: ds) sl ss = forD (fun d sl' ss => (bindT t d sl').bind fun sl' => keptLocks ls (exs cs sl' ss)) ds s2 ss1 := by
        conv => lhs; unfold forD
        rw [e3]
      rw [e4]
      exact q2
    | rt d1 =>
      have q : exs cs s1 ss = some (.rt (mr d1) ss1) := q
      have e3 : ((bindT t d sl).bind fun sl' => keptLocks ls (exs cs sl' ss)) = some (.rt (mr d1) ss1) := by
        rw [e1]
        simp only [Option.bind_some, q, keptLocks]
      refine ⟨.rt d1, ss1, ok1, k, ?_⟩
      show forD _ (d :: ds) sl ss = _
      unfold forD
      rw [e3]
theorem ws_for0 {inv : σ → List Pt} {st0 : σ} {f : D → σ → Wt M (Fl σ)} {Wi : Wt M (List D)} (hk : lockOf it = some []) (hi : WI M it ps Wi) (h0 : Wkn ps (inv st0)) (hb : ∀ d st, XB M t d cs (inv st) (f d st) inv mr) : WS M (.forr t it cs) ps (fun Q => Wi fun xs => forW M f xs st0 Q) inv mr := fun Q hq sl hm ss ok => by
  obtain ⟨xs, s1, e1, ok1, k⟩ := hi _ hq sl hm ss ok
  obtain ⟨fl, s2, ok2, k2, q⟩ := forw_run (ls := []) (fun _ _ _ => rfl) hb xs st0 Q k sl (h0.mt hm) s1 ok1
  refine ⟨fl, s2, ok2, k2, ?_⟩
  have e : ex (.forr t it cs) sl ss = match forD (fun d sl' ss => (bindT t d sl').bind fun sl' => keptLocks [] (exs cs sl' ss)) xs sl s1 with
      | some (.nx sl' ss') => some (.nx sl' ss')
      | r => r := by
    rw [x_forr, hk, e1]
    rfl
  rw [e]
  cases fl with
  | nx st => obtain ⟨s3, e3, m3⟩ := q; rw [e3]; exact ⟨s3, rfl, m3⟩
  | rt d => have q : forD _ xs sl s1 = _ := q; rw [q]; exact rfl
theorem ws_forV {inv : σ → List Pt} {st0 : σ} {f : D → σ → Wt M (Fl σ)} {Wi : Wt M (List D)} (hk : lockOf it = some [i]) (hp : ps[i]? = some (.v x)) (hi : WI M it ps Wi) (h0 : Wkn ps (inv st0)) (hb : ∀ d st, XB M t d cs (inv st) (f d st) inv mr) : WS M (.forr t it cs) ps (fun Q => Wi fun xs => forW M f xs st0 Q) inv mr := fun Q hq sl hm ss ok => by
  obtain ⟨xs, s1, e1, ok1, k⟩ := hi _ hq sl hm ss ok
  obtain ⟨s, e, r⟩ := hm.get hp
  cases r
  have n1 : lockAll [i] sl = sl := by simp [lockAll, lockS, e]
  have n2 : isLock sl i = false := by simp [isLock, e]
  have n3 : isOwn sl i = false := by simp [isOwn, e]
  obtain ⟨fl, s2, ok2, k2, q⟩ := forw_run (ls := []) (fun _ _ _ => rfl) hb xs st0 Q k sl (h0.mt hm) s1 ok1
  refine ⟨fl, s2, ok2, k2, ?_⟩
  have e : ex (.forr t it cs) sl ss = match forD (fun d sl' ss => (bindT t d sl').bind fun sl' => keptLocks [] (exs cs sl' ss)) xs sl s1 with
      | some (.nx sl' ss') => some (.nx sl' ss')
      | r => r := by
    rw [x_forr, hk, e1]
    simp only [Option.bind_some, n1, List.filter_cons, n2, List.filter_nil, Bool.false_eq_true, if_false]
    generalize forD _ xs sl s1 = z
    cases z with
    | none => rfl
    | some o => cases o <;> simp [ownAll, unlockAll, n3, unlockS]
  rw [e]
  cases fl with
  | nx st => obtain ⟨s3, e3, m3⟩ := q; rw [e3]; exact ⟨s3, rfl, m3⟩
  | rt d => have q : forD _ xs sl s1 = _ := q; rw [q]; exact rfl
theorem forM_of {f : D → σ → Wt M σ} : ∀ (xs : List D) (st : σ) (Q : Fl σ → M.A), forW M (fun d st Q => f d st fun st => Q (.nx st)) xs st Q = forM M f xs st fun st => Q (.nx st)
  | [], st, Q => rfl
  | d :: ds, st, Q => by
    unfold forW forM flW
    congr 1
    funext st
    exact forM_of ds st Q
/-! while -/
def whW (M : Alg) (c : σ → Wt M Bool) (f : σ → Wt M (Fl σ)) : Nat → σ → Wt M (Fl σ)
  | 0, _, _ => M.bad
  | n + 1, st, Q => c st fun b => if b then f st (flW M (whW M c f n) .rt Q) else Q (.nx st)
theorem whw_run {inv : σ → List Pt} {oc : σ → Wt M Bool} {f : σ → Wt M (Fl σ)} (hc : ∀ st, WB M c (inv st) (oc st)) (hb : ∀ st, WL M cs (inv st) (f st) inv mr) : ∀ (n : Nat) (st : σ) (Q : Fl σ → M.A), M.H (whW M oc f n st Q) → ∀ sl, Mt (inv st) sl → ∀ ss, SSok ss → ∃ fl ss', SSok ss' ∧ M.H (Q fl) ∧
    FlW (whD (fun sl ss => toB (ev c sl ss)) (fun sl ss => exs cs sl ss) n sl ss) ss' inv mr fl
  | 0, st, Q, h, sl, hm, ss, ok => (M.hbad h).elim
  | n + 1, st, Q, h, sl, hm, ss, ok => by
    obtain ⟨bb, s1, e1, ok1, k⟩ := hc st _ h sl hm ss ok
    cases bb with
    | false =>
      refine ⟨.nx st, s1, ok1, k, sl, ?_, hm⟩
      unfold whD
      rw [wb_toB e1]; rfl
    | true =>
      obtain ⟨fl, s2, ok2, k2, q⟩ := hb st _ k sl hm s1 ok1
      cases fl with
      | nx st1 =>
        obtain ⟨s3, e3, m3⟩ := q
        obtain ⟨fl, s4, ok4, k4, q4⟩ := whw_run hc hb n st1 Q k2 s3 m3 s2 ok2
        refine ⟨fl, s4, ok4, k4, ?_⟩
        have e4 : whD (fun sl ss => toB (ev c sl ss)) (fun sl ss => exs cs sl ss) (n + 1) sl ss = whD (fun sl ss => toB (ev c sl ss)) (fun sl ss => exs cs sl ss) n s3 s2 := by
          conv => lhs; unfold whD
          rw [wb_toB e1]
          simp only [Option.bind_some, if_true, e3]
        rw [e4]; exact q4
      | rt d1 =>
        refine ⟨.rt d1, s2, ok2, k2, ?_⟩
        have q : exs cs sl s1 = some (.rt (mr d1) s2) := q
        show whD _ _ (n + 1) sl ss = _
        unfold whD
        rw [wb_toB e1]
        simp only [Option.bind_some, if_true, q]
theorem ws_whl {inv : σ → List Pt} {st0 : σ} {oc : σ → Wt M Bool} {f : σ → Wt M (Fl σ)} (h0 : Wkn ps (inv st0)) (hc : ∀ st, WB M c (inv st) (oc st)) (hb : ∀ st, WL M cs (inv st) (f st) inv mr) : WS M (.whl c cs) ps (fun Q => whW M oc f FUEL st0 Q) inv mr := fun Q hq sl hm ss ok => whw_run hc hb FUEL st0 Q hq sl (h0.mt hm) ss ok
/-! a branch that ends, ahead of what stands behind -/
theorem vl_appR {o : Option D} (h : VL cs ps o mr) : VL (cs ++ ks) ps o mr := fun d hd sl hm ss => by
  rw [exs_appM, h d hd sl hm ss]
theorem tl_ofv {o : Option D} (h : VL cs ps o mr) : TL (σ := σ) (cs ++ ks) ps (o.bind fun d => some (.rt d)) post mr := fun fl q sl hm => by
  obtain ⟨d, hd, q⟩ := Option.bind_eq_some_iff.mp q
  cases q
  intro ss
  show exs (cs ++ ks) sl ss = _
  rw [exs_appM, h d hd sl hm ss]
theorem wv_appR {W : Wt M D} (h : WV M cs ps W mr) : WV M (cs ++ ks) ps W mr := fun Q hq sl hm ss ok => by
  obtain ⟨d, s1, ok1, k, e⟩ := h Q hq sl hm ss ok
  exact ⟨d, s1, ok1, k, by rw [exs_appM, e]⟩
theorem wl_ofv {W : Wt M D} (h : WV M cs ps W mr) : WL (σ := σ) M (cs ++ ks) ps (fun Q => W fun d => Q (.rt d)) post mr := fun Q hq sl hm ss ok => by
  obtain ⟨d, s1, ok1, k, e⟩ := h _ hq sl hm ss ok
  refine ⟨.rt d, s1, ok1, k, ?_⟩
  show exs (cs ++ ks) sl ss = _
  rw [exs_appM, e]
theorem wv_wk {W : Wt M D} (w : Wkn ps qs) (h : WV M cs qs W mr) : WV M cs ps W mr := fun Q hq sl hm ss ok => h Q hq sl (w.mt hm) ss ok
theorem ws_pre {W : Wt M (Fl σ)} (w : Wkn ps qs) (h : WS M s qs W post mr) : WS M s ps W post mr := fun Q hq sl hm ss ok => h Q hq sl (w.mt hm) ss ok
theorem wl_wk {W : Wt M (Fl σ)} (w : Wkn ps qs) (h : WL M cs qs W post mr) : WL M cs ps W post mr := fun Q hq sl hm ss ok => h Q hq sl (w.mt hm) ss ok
/-! a def that draws; a law -/
theorem fw_ok {np n N : Nat} {as : List D} {W : Wt M D} (hn : as.length = np) (hN : np + 1 + n = N) (h : WV M cs (.s :: startP n as) W mr) (Q : D → M.A) (hq : M.H (W Q)) (ss : SS) (ok : SSok ss) : ∃ d ss', runF (np + 1) N cs (.src :: as.map .v) ss = some (mr d, ss') ∧ SSok ss' ∧ M.H (Q d) := by
  subst hN
  obtain ⟨d, s1, ok1, k, e⟩ := h Q hq (.src :: ((as.map AV.v).map AV.sv ++ List.replicate n .un)) ⟨_, _, rfl, rfl, mt_start as n⟩ ss ok
  refine ⟨d, s1, ?_, ok1, k⟩
  rw [runF_eq (by simp [hn]), show np + 1 + n - (np + 1) = n by omega]
  show outF (exs cs (.src :: ((as.map AV.v).map AV.sv ++ List.replicate n .un)) ss) = _
  rw [e]; rfl
theorem lawTrue_of {N i : Nat} {W : Wt M D} (h : WV M cs ((List.replicate N .j).set i .s) W .v) (Q : D → M.A) (hq : M.H (W Q)) (hQ : ∀ d, M.H (Q d) → d = .bool true) : LawTrue N i cs := fun ss ok => by
  obtain ⟨d, s1, ok1, k, e⟩ := h Q hq ((List.replicate N SV.un).set i .src) ((mt_rep N).set rfl) ss ok
  cases hQ d k
  exact ⟨s1, e⟩
def tB : D → Bool
  | .bool b => b
  | _ => false
theorem lawTrue_B {N i : Nat} {W : Wt boolA D} (h : WV boolA cs ((List.replicate N .j).set i .s) W .v) (hq : W tB = true) : LawTrue N i cs := lawTrue_of h tB hq fun d hd => by
  cases d with
  | bool b => have hd : b = true := hd; subst hd; rfl
  | _ => cases hd
theorem lawTrue_P {N i : Nat} {W : Wt propA D} (h : WV propA cs ((List.replicate N .j).set i .s) W .v) (hq : W fun d => d = .bool true) : LawTrue N i cs := lawTrue_of h _ hq fun d hd => hd
end
end Pm
/-! shallow code at work: lists of ints, draws whatever they give -/
namespace Pm
open PySem
abbrev tI (l : List Int) : D := .tuple (iL l)
abbrev lI (l : List Int) : D := .list (iL l)
theorem SL_val : SL = 16777216 := rfl
/-! ### pure -/
theorem mapL_eq {g : D → Option D} {h : D → D} : ∀ {xs : List D}, (∀ d ∈ xs, g d = some (h d)) → mapL g xs = some (xs.map h)
  | [], _ => rfl
  | d :: ds, k => by
    unfold mapL
    rw [k d List.mem_cons_self, mapL_eq fun x hx => k x (List.mem_cons_of_mem _ hx)]
    rfl
theorem mapS_eq {g : D → Option D} {h : D → D} {xs : List D} (hl : xs.length ≤ SL) (k : ∀ d ∈ xs, g d = some (h d)) : mapS g xs = some (xs.map h) := by
  unfold mapS; rw [if_pos hl, mapL_eq k]
theorem filL_eq {c : D → Option Bool} {g : D → Option D} {p : D → Bool} {h : D → D} : ∀ {xs : List D}, (∀ d ∈ xs, c d = some (p d)) → (∀ d ∈ xs, p d = true → g d = some (h d)) → filL c g xs = some ((xs.filter p).map h)
  | [], _, _ => rfl
  | d :: ds, k, k2 => by
    have ih := filL_eq (xs := ds) (fun x hx => k x (List.mem_cons_of_mem _ hx)) fun x hx => k2 x (List.mem_cons_of_mem _ hx)
    unfold filL
    rw [k d List.mem_cons_self]
    simp only [Option.bind_some]
    cases q : p d with
    | true => rw [List.filter_cons_of_pos q, k2 d List.mem_cons_self q, ih]; rfl
    | false => rw [List.filter_cons_of_neg (by rw [q]; exact Bool.false_ne_true)]; simpa using ih
theorem filS_eq {c : D → Option Bool} {g : D → Option D} {p : D → Bool} {h : D → D} {xs : List D} (hl : xs.length ≤ SL) (k : ∀ d ∈ xs, c d = some (p d)) (k2 : ∀ d ∈ xs, p d = true → g d = some (h d)) : filS c g xs = some ((xs.filter p).map h) := by
  unfold filS; rw [if_pos hl, filL_eq k k2]
/-- numbers kept -/
theorem filS_int {c : D → Option Bool} {p : Int → Bool} {l : List Int} (hl : l.length ≤ SL) (k : ∀ i ∈ l, c (.int i) = some (p i)) : filS c (fun d => some d) (iL l) = some (iL (l.filter p)) := by
  unfold filS
  rw [if_pos (by rw [iL_len]; exact hl)]
  have : ∀ l : List Int, (∀ i ∈ l, c (.int i) = some (p i)) → filL c (fun d => some d) (iL l) = some (iL (l.filter p)) := by
    intro l
    induction l with
    | nil => intro _; rfl
    | cons i l ih =>
      intro k
      rw [iL_cons]
      unfold filL
      rw [k i List.mem_cons_self, ih fun x hx => k x (List.mem_cons_of_mem _ hx)]
      cases q : p i with
      | true => rw [List.filter_cons_of_pos q]; rfl
      | false => rw [List.filter_cons_of_neg (by rw [q]; exact Bool.false_ne_true)]; rfl
  exact this l k
theorem mapS_int {g : D → Option D} {h : Int → Int} {l : List Int} (hl : l.length ≤ SL) (k : ∀ i ∈ l, g (.int i) = some (.int (h i))) : mapS g (iL l) = some (iL (l.map h)) := by
  unfold mapS
  rw [if_pos (by rw [iL_len]; exact hl)]
  have : ∀ l : List Int, (∀ i ∈ l, g (.int i) = some (.int (h i))) → mapL g (iL l) = some (iL (l.map h)) := by
    intro l
    induction l with
    | nil => intro _; rfl
    | cons i l ih =>
      intro k
      rw [iL_cons]
      unfold mapL
      rw [k i List.mem_cons_self, ih fun x hx => k x (List.mem_cons_of_mem _ hx)]
      rfl
  exact this l k
/-- [k for k, one in enumerate(..) if ..] -/
theorem filS_enum {f : D → D → Option Bool} {p : Int → Int → Bool} {l : List Int} (hl : l.length ≤ SL) (k : ∀ i (h : i < l.length), f (.int i) (.int l[i]) = some (p i l[i])) :
    filS (fun d => un2 d f) (fun d => un2 d fun x _ => some x) (enumD (iL l)) = some (iL (((List.range l.length).filter fun (i : Nat) => p i (l.getD i 0)).map fun (i : Nat) => (i : Int))) := by
  unfold filS
  have e : enumD (iL l) = (List.range l.length).map fun (i : Nat) => PyData.tuple [.int i, .int (l.getD i 0)] := by
    unfold enumD iL
    refine List.ext_getElem (by simp) fun k h1 h2 => ?_
    simp at h1 h2
    simp [h2]
  rw [if_pos (by rw [e]; simpa using hl), e]
  have : ∀ r : List Nat, (∀ i ∈ r, i < l.length) → filL (fun d => un2 d f) (fun d => un2 d fun x _ => some x) (r.map fun (i : Nat) => PyData.tuple [.int i, .int (l.getD i 0)]) = some (iL ((r.filter fun (i : Nat) => p i (l.getD i 0)).map fun (i : Nat) => (i : Int))) := by
    intro r
    induction r with
    | nil => intro _; rfl
    | cons i r ih =>
      intro hr
      have hi := hr i List.mem_cons_self
      have e1 : l.getD i 0 = l[i] := by simp [hi]
      rw [List.map_cons]
      unfold filL
      have : un2 (PyData.tuple [.int i, .int (l.getD i 0)]) f = some (p i (l.getD i 0)) := by rw [e1]; exact k i hi
      rw [this, ih fun x hx => hr x (List.mem_cons_of_mem _ hx)]
      cases q : p i (l.getD i 0) with
      | true => rw [List.filter_cons_of_pos (p := fun (i : Nat) => p i (l.getD i 0)) q]; rfl
      | false => rw [List.filter_cons_of_neg (p := fun (i : Nat) => p i (l.getD i 0)) (by rw [q]; exact Bool.false_ne_true)]; rfl
  exact this _ fun i hi => List.mem_range.mp hi
theorem rg1S_nat {n : Nat} (h : n ≤ SL) : rg1S (.int (n : Int)) = some (iL (rgL n)) := by
  have hS : SL = 16777216 := rfl
  unfold rg1S
  simp only
  rw [if_pos ⟨by omega, by omega⟩, range_ints]
  rfl
theorem rg2S_gen {i j : Int} (h1 : -4611686018427387904 ≤ i) (h2 : i < 4611686018427387904) (h3 : -4611686018427387904 ≤ j) (h4 : j < 4611686018427387904) (h5 : j - i ≤ 16777216) : rg2S (.int i) (.int j) = some (rangeD i j) := by unfold rg2S; exact if_pos ⟨⟨h1, h2, h3, h4⟩, h5⟩
theorem idx_tI {l : List Int} {i : Nat} (h : i < l.length) : idxD (tI l) (.int i) = some (.int l[i]) := by
  have : ixN (iL l).length (i : Int) = some i := by
    have := ix_at (n := (iL l).length) (r := (i : Int)) ⟨by omega, by rw [iL_len]; omega⟩
    simpa using this
  show (ixN (iL l).length (i : Int)).bind (fun j => (iL l)[j]?) = _
  rw [this]
  simp [iL_get, h]
theorem idx_lI {l : List Int} {i : Nat} (h : i < l.length) : idxD (lI l) (.int i) = some (.int l[i]) := idx_tI h
theorem idx_int {l : List Int} {k : Int} (h0 : 0 ≤ k) (h : k < l.length) : idxD (tI l) (.int k) = some (.int (l.getD k.toNat 0)) := by
  obtain ⟨n, rfl⟩ := Int.eq_ofNat_of_zero_le h0
  have hn : n < l.length := by omega
  rw [idx_tI hn]
  simp [hn]
theorem len_tI (l : List Int) : biS .len [tI l] = some (.int l.length) := by
  show some (PyData.int (iL l).length) = _
  rw [iL_len]
theorem len_lI (l : List Int) : biS .len [lI l] = some (.int l.length) := by
  show some (PyData.int (iL l).length) = _
  rw [iL_len]
theorem len_t (ds : List D) : biS .len [.tuple ds] = some (.int ds.length) := rfl
theorem len_l (ds : List D) : biS .len [.list ds] = some (.int ds.length) := rfl
theorem seq_t (ds : List D) : seqOf (.tuple ds) = some ds := rfl
theorem seq_l (ds : List D) : seqOf (.list ds) = some ds := rfl
theorem tup_l (ds : List D) : biS .tuple [.list ds] = some (.tuple ds) := rfl
theorem tup_t (ds : List D) : biS .tuple [.tuple ds] = some (.tuple ds) := rfl
theorem list_t (ds : List D) : biS .list [.tuple ds] = some (.list ds) := rfl
theorem addS_int (a b : Int) : binS .add (.int a) (.int b) = some (.int (a + b)) := rfl
theorem subS_int (a b : Int) : binS .sub (.int a) (.int b) = some (.int (a - b)) := rfl
theorem negS_int (a : Int) : negS (.int a) = some (.int (-a)) := rfl
theorem intS_int (a : Int) : intS (.int a) = some (.int a) := rfl
theorem addS_l' {a b : List D} (h : a.length + b.length ≤ 16777216) : binS .add (.list a) (.list b) = some (.list (a ++ b)) := by
  simp [binS, binD, addD, SL_val, h, rd]
theorem addS_t' {a b : List D} (h : a.length + b.length ≤ 16777216) : binS .add (.tuple a) (.tuple b) = some (.tuple (a ++ b)) := by
  simp [binS, binD, addD, SL_val, h, rd]
theorem addS_l {a b : List D} (h : a.length + b.length ≤ SL) : binS .add (.list a) (.list b) = some (.list (a ++ b)) := by
  simp [binS, binD, addD, h, rd]
theorem addS_t {a b : List D} (h : a.length + b.length ≤ SL) : binS .add (.tuple a) (.tuple b) = some (.tuple (a ++ b)) := by
  simp [binS, binD, addD, h, rd]
theorem extS_l {a b : List D} (h : a.length + b.length ≤ SL) : extS (.list a) (.list b) = some (.list (a ++ b)) := by
  simp [extS, h]
theorem appS_l {a : List D} {d : D} (h : a.length < SL) : appS (.list a) d = some (.list (a ++ [d])) := by simp [appS, h]
theorem shortS_eq {xs : List D} (h : xs.length ≤ SL) : shortS xs = some xs := by simp [shortS, h]
theorem boolS_b (b : Bool) : boolS (.bool b) = some b := rfl
theorem cmp_le (a b : Int) : cmpD .le (.int a) (.int b) = some (decide (a ≤ b)) := rfl
theorem cmp_lt (a b : Int) : cmpD .lt (.int a) (.int b) = some (decide (a < b)) := rfl
theorem cmp_ge (a b : Int) : cmpD .ge (.int a) (.int b) = some (decide (b ≤ a)) := rfl
theorem cmp_gt (a b : Int) : cmpD .gt (.int a) (.int b) = some (decide (b < a)) := rfl
theorem cmp_eqi (a b : Int) : cmpD .eq (.int a) (.int b) = some (a == b) := rfl
theorem cmp_nei (a b : Int) : cmpD .ne (.int a) (.int b) = some (!(a == b)) := rfl
theorem cmp_eqs (a b : Str) : cmpD .eq (.str a) (.str b) = some (a == b) := rfl
theorem cmp_nes (a b : Str) : cmpD .ne (.str a) (.str b) = some (!(a == b)) := rfl
theorem cmp_eqb (a b : Bool) : cmpD .eq (.bool a) (.bool b) = some (a == b) := eq_bool a b
theorem cmp_neb (a b : Bool) : cmpD .ne (.bool a) (.bool b) = some (!(a == b)) := ne_bool a b
theorem cmp_isn (a b : D) : cmpD .isn a b = some (isNone a) := rfl
theorem cmp_notn (a b : D) : cmpD .notn a b = some (!isNone a) := rfl
theorem cmp_eqlI (a b : List Int) : cmpD .eq (lI a) (lI b) = some (decide (a = b)) := eq_lst a b
theorem cmp_nelI (a b : List Int) : cmpD .ne (lI a) (lI b) = some (!decide (a = b)) := by
  show (eqD (lI a) (lI b)).map (!·) = _
  rw [eq_lst]; rfl
theorem cmp_eqtI (a b : List Int) : cmpD .eq (tI a) (tI b) = some (decide (a = b)) := eq_tup a b
theorem cmp_netI (a b : List Int) : cmpD .ne (tI a) (tI b) = some (!decide (a = b)) := by
  show (eqD (tI a) (tI b)).map (!·) = _
  rw [eq_tup]; rfl
theorem cmp_in (x : Int) (l : List Int) : cmpD .isin (.int x) (lI l) = some (decide (x ∈ l)) := in_lst x l
theorem cmp_notin (x : Int) (l : List Int) : cmpD .notin (.int x) (lI l) = some (!decide (x ∈ l)) := by
  show (inD (.int x) (lI l)).map (!·) = _
  rw [in_lst]; rfl
theorem sort_tI (l : List Int) : biS .sorted [tI l] = some (lI (sortI l)) := by
  show (sortedD [tI l]).bind rd = _
  have : sortable (iL l) = true := by
    unfold sortable
    rw [show intsL (iL l) = some l from intsL_map l]
    rfl
  simp only [sortedD, seqOf, Option.bind_some, this, if_true, rd]
  show some (PyData.list (sortD (l.map .int))) = _
  rw [sortD_int]; rfl
theorem sort_lI (l : List Int) : biS .sorted [lI l] = some (lI (sortI l)) := sort_tI l
theorem sort_eq_of {l r : List Int} (hp : l.Perm r) (hs : r.Pairwise (· ≤ ·)) : sortI l = r :=
  List.Perm.eq_of_pairwise (fun a b _ _ h1 h2 => by omega) (sortI_sorted l) hs ((sortI_perm l).trans hp)
theorem rgL_sorted (n : Nat) : (rgL n).Pairwise (· < ·) := by
  unfold rgL
  rw [List.pairwise_map]
  exact List.pairwise_lt_range.imp fun h => by omega
theorem rgL_mem {n : Nat} {x : Int} : x ∈ rgL n ↔ 0 ≤ x ∧ x < n := by
  unfold rgL
  rw [List.mem_map]
  constructor
  · rintro ⟨k, hk, rfl⟩; have := List.mem_range.mp hk; omega
  · intro h; exact ⟨x.toNat, List.mem_range.mpr (by omega), by omega⟩
theorem shape_sub {xs : List D} (h : ∀ d ∈ xs, d.canLay0 = true ∧ d.depth ≤ 60) : SeqAt.shaped (.list xs) = true := by
  unfold SeqAt.shaped
  have h1 : PyData.canLayAll0 xs = true := by
    induction xs with
    | nil => simp [PyData.canLayAll0]
    | cons d ds ih =>
      rw [PyData.canLayAll0, (h d List.mem_cons_self).1, ih fun x hx => h x (List.mem_cons_of_mem _ hx)]; rfl
  have h2 : PyData.depthAll xs ≤ 60 := depth_all fun d hd => (h d hd).2
  rw [PyData.canLay0, h1, PyData.depth]
  simp only [Bool.true_and, decide_eq_true_eq]
  omega
theorem ne_nil {xs : List D} (h : ∀ d ∈ xs, d.canLay0 = true ∧ d.depth ≤ 60) : cmpD .ne (.list xs) (.list []) = some (!xs.isEmpty) := by
  show (eqD (.list xs) (.list [])).map (!·) = _
  unfold eqD
  simp only
  rw [if_pos ⟨shape_sub h, by rfl⟩]
  cases xs <;> simp [PyData.eqv, PyData.eqvAll]
theorem cut_to (xs : List D) (k : Nat) : cut xs .none (.int k) = some (xs.take k) := by
  simp only [cut, sIx]
  rw [if_neg (by omega), Int.toNat_natCast, List.drop_zero, Nat.sub_zero]
  congr 1
  rcases Nat.le_total k xs.length with q | q
  · rw [Nat.min_eq_left q]
  · rw [Nat.min_eq_right q, List.take_of_length_le (Nat.le_refl _), List.take_of_length_le q]
theorem cut_from (xs : List D) (k : Nat) : cut xs (.int k) .none = some (xs.drop k) := by
  simp only [cut, sIx]
  rw [if_neg (by omega), Int.toNat_natCast]
  congr 1
  rcases Nat.le_total k xs.length with q | q
  · rw [Nat.min_eq_left q, List.take_of_length_le (by rw [List.length_drop]; omega)]
  · rw [Nat.min_eq_right q, List.drop_of_length_le (Nat.le_refl _), List.drop_of_length_le q]; simp
theorem sliTo (xs : List D) (k : Nat) : sliS (.tuple xs) .none (.int k) = some (.tuple (xs.take k)) := by
  show (sliD (.tuple xs) .none (.int k)).bind rd = _
  simp only [sliD, cut_to]; rfl
theorem sliFrom (xs : List D) (k : Nat) : sliS (.tuple xs) (.int k) .none = some (.tuple (xs.drop k)) := by
  show (sliD (.tuple xs) (.int k) .none).bind rd = _
  simp only [sliD, cut_from]; rfl
theorem sliToL (xs : List D) (k : Nat) : sliS (.list xs) .none (.int k) = some (.list (xs.take k)) := by
  show (sliD (.list xs) .none (.int k)).bind rd = _
  simp only [sliD, cut_to]; rfl
theorem sliFromL (xs : List D) (k : Nat) : sliS (.list xs) (.int k) .none = some (.list (xs.drop k)) := by
  show (sliD (.list xs) (.int k) .none).bind rd = _
  simp only [sliD, cut_from]; rfl
theorem sliTo_I (l : List Int) (k : Nat) : sliS (tI l) .none (.int k) = some (tI (l.take k)) := by
  rw [show (tI l : D) = .tuple (iL l) from rfl, sliTo]; simp [iL]
theorem sliFrom_I (l : List Int) (k : Nat) : sliS (tI l) (.int k) .none = some (tI (l.drop k)) := by
  rw [show (tI l : D) = .tuple (iL l) from rfl, sliFrom]; simp [iL]
theorem revS_t (xs : List D) : revS (.tuple xs) = some (.tuple xs.reverse) := rfl
theorem revS_l (xs : List D) : revS (.list xs) = some (.list xs.reverse) := rfl
theorem repr_eq {a : D} (h : reprOk a = true) : biS .repr [a] = some (.str a.shown) := by
  show (reprD [a]).bind rd = _
  rw [reprD_of h]; rfl
/-- [..][k] of a drawn k -/
theorem idx_mem {ds : List D} {i : Int} (h0 : 0 ≤ i) (h1 : i < ds.length) : ∃ d ∈ ds, idxD (.list ds) (.int i) = some d ∧ idxD (.tuple ds) (.int i) = some d := idx_at ⟨h0, h1⟩
/-! ### draws, whatever they give -/
theorem lW_some {α : Type} {M : Alg} (a : α) (k : α → M.A) : lW M (some a) k = k a := by unfold lW; rfl
theorem lW_of {α : Type} {o : Option α} {a : α} {k : α → Prop} (h : o = some a) (hk : k a) : lW propA o k := by unfold lW; rw [h]; exact hk
theorem pickP {n : Int} {Q : D → Prop} (hn : n < 18446744073709551616) (h : ∀ i, 0 ≤ i → i < max 1 n → Q (.int i)) : pickW propA (.int n) Q := by
  unfold pickW
  simp only
  rw [if_pos hn]
  exact h
theorem pick_pos {n : Int} {Q : D → Prop} (hn : 1 ≤ n ∧ n < 18446744073709551616) (h : ∀ i, 0 ≤ i → i < n → Q (.int i)) : pickW propA (.int n) Q := pickP hn.2 fun i h0 h1 => h i h0 (by omega)
theorem mixA_P {Q : D → Prop} : ∀ (n : Nat) (xs acc : List D), n = xs.length → xs.length ≤ SL → (∀ ys, ys.Perm xs → Q (.list (acc.reverse ++ ys))) → mixA propA n xs acc Q
  | 0, xs, acc, e, _, h => by
    have : xs = [] := List.length_eq_zero_iff.mp e.symm
    subst this
    have := h [] (List.Perm.refl _)
    simpa [mixA] using this
  | n + 1, xs, acc, e, hl, h => by
    intro i h0 h1
    have hi : i < xs.length := by omega
    obtain ⟨d, e1, e2⟩ := popD_ok (xs := xs) (k := i) h0 hi hl
    refine lW_of e2 ?_
    have hlt : i.toNat < xs.length := by omega
    refine mixA_P n _ _ (by rw [List.length_eraseIdx_of_lt hlt]; omega) (by rw [List.length_eraseIdx_of_lt hlt]; omega) fun ys hy => ?_
    have hd : xs[i.toNat] = d := by
      have := List.getElem?_eq_getElem hlt
      rw [this] at e1; exact Option.some.inj e1
    have hp : (d :: ys).Perm xs := ((hy.cons d).trans (by rw [← hd]; exact erase_perm hlt))
    have := h (d :: ys) hp
    simpa using this
theorem mixP {d : D} {xs : List D} {Q : D → Prop} (hd : seqOf d = some xs) (hl : xs.length ≤ SL) (h : ∀ ys, ys.Perm xs → Q (.list ys)) : mixW propA d Q := by
  unfold mixW
  refine lW_of hd ?_
  rw [if_pos hl]
  exact mixA_P _ _ _ rfl hl fun ys hy => by simpa using h ys hy
theorem mixI {l : List Int} {d : D} {Q : D → Prop} (hd : seqOf d = some (iL l)) (hl : l.length ≤ SL) (h : ∀ r : List Int, r.Perm l → Q (lI r)) : mixW propA d Q :=
  mixP hd (by rw [iL_len]; exact hl) fun ys hy => by
    obtain ⟨r, rfl, hr⟩ := perm_iL hy
    exact h r hr
/-- what each turn of a comprehension gives -/
inductive All2 {α β : Type} (P : α → β → Prop) : List α → List β → Prop
  | nil : All2 P [] []
  | cons {a b as bs} : P a b → All2 P as bs → All2 P (a :: as) (b :: bs)
theorem All2.len {α β : Type} {P : α → β → Prop} {as : List α} {bs : List β} (h : All2 P as bs) : bs.length = as.length := by induction h with
  | nil => rfl
  | cons _ _ ih => simp [ih]
theorem mapP {f : D → Wt propA D} {P : D → D → Prop} {Q : D → Prop} : ∀ (xs acc : List D), (∀ d ∈ xs, ∀ K : D → Prop, (∀ y, P d y → K y) → f d K) → (∀ ys, All2 P xs ys → Q (.list (acc.reverse ++ ys))) → mapW propA f xs acc Q
  | [], acc, _, h => by have := h [] .nil; simpa [mapW] using this
  | d :: ds, acc, hf, h => hf d List.mem_cons_self _ fun y hy => mapP ds (y :: acc) (fun x hx => hf x (List.mem_cons_of_mem _ hx)) fun ys hys => by
      have := h (y :: ys) (.cons hy hys); simpa using this
theorem all2_int {P : Int → Int → Prop} {l : List Int} {ys : List D} (h : All2 (fun a b => ∃ i j, a = .int i ∧ b = .int j ∧ P i j) (iL l) ys) : ∃ r : List Int, ys = iL r ∧ All2 P l r := by
  induction l generalizing ys with
  | nil => cases h; exact ⟨[], rfl, .nil⟩
  | cons i l ih =>
    rw [iL_cons] at h
    cases h with
    | cons h1 h2 =>
      obtain ⟨i', j, e1, rfl, hp⟩ := h1
      cases e1
      obtain ⟨r, rfl, hr⟩ := ih h2
      exact ⟨j :: r, rfl, .cons hp hr⟩
theorem forP {σ : Type} {f : D → σ → Wt propA (Fl σ)} {I : σ → Prop} {Q : Fl σ → Prop} : ∀ (xs : List D) (st : σ), I st → (∀ d ∈ xs, ∀ st, I st → ∀ K : Fl σ → Prop, (∀ st', I st' → K (.nx st')) → f d st K) → (∀ st', I st' → Q (.nx st')) → forW propA f xs st Q
  | [], st, h, _, hQ => hQ st h
  | d :: ds, st, h, hf, hQ => hf d List.mem_cons_self st h _ fun st' h' => forP ds st' h' (fun x hx => hf x (List.mem_cons_of_mem _ hx)) hQ
theorem forF_all {f : D → Unit → Option (Fl Unit)} : ∀ {xs : List D}, (∀ d ∈ xs, f d () = some (.nx ())) → forF f xs () = some (.nx ())
  | [], _ => rfl
  | d :: ds, h => by
    unfold forF seqF
    rw [h d List.mem_cons_self]
    exact forF_all fun x hx => h x (List.mem_cons_of_mem _ hx)
end Pm
namespace Kk22
open PySem Pm
def N__law_pick : List Str := ["source", "many", "left", "mixed"]
def B__law_pick : List CS := [.whl (.and (.cmp .gt (.loc 1) (.lit (.int 1))) (.and (.cmp .lt (.sget .left 0) (.lit (.int 2))) (.cmp .gt (.slen 0) (.lit (.int 0))))) [.spop 0], .set 2 (.sget .left 0), .ite (.or (.cmp .lt (.loc 1) (.lit (.int 2))) (.cmp .gt (.loc 2) (.lit (.int 1)))) [.sput .left 0 (.bin .fdiv (.loc 2) (.bi .max2 [(.lit (.int 1)), (.loc 1)])), .ret (.bin .mod (.bi .int [(.loc 2)]) (.bi .max2 [(.lit (.int 1)), (.loc 1)]))] [], .sput .turn 0 (.bin .add (.sget .turn 0) (.lit (.int 1))), .set 3 (.bin .mod (.bi .int [(.bin .add (.sget .mixed 0) (.bin .mul (.sget .turn 0) (.lit (.int 104729))))]) (.lit (.int 998244353))), .set 3 (.bin .mod (.bi .int [(.bin .add (.bin .mul (.loc 3) (.loc 3)) (.bin .mul (.sget .turn 0) (.lit (.int 17))))]) (.lit (.int 2147483647))), .sput .mixed 0 (.loc 3), .ret (.bin .mod (.bi .int [(.bin .fdiv (.loc 3) (.lit (.int 16)))]) (.loc 1))]
def F__law_pick : Fn := runF 2 4 B__law_pick
theorem pick_eq : F__law_pick = F_pick := rfl
def w__law_of_e1 (M : Alg) (v_some : D) : Wt M (D) := fun Q => lW M (some v_some) Q
theorem e__law_of_e1 (M : Alg) (v_some : D) : WE M R.v (.loc 1) [.s, .v v_some] (w__law_of_e1 M v_some) := by
  unfold w__law_of_e1
  exact (we_p (pe_v rfl))
def w__law_of_e2 (M : Alg) (v_some : D) : Wt M (D) := fun Q => lW M ((some v_some).bind fun x8 => biS .len [x8]) Q
theorem e__law_of_e2 (M : Alg) (v_some : D) : WE M R.v (.bi .len [(.loc 1)]) [.s, .v v_some] (w__law_of_e2 M v_some) := by
  unfold w__law_of_e2
  exact (we_p (PN.pe R.v (pn_bi1 rfl (pe_v rfl))))
def w__law_of_e3 (M : Alg) (v_some : D) : Wt M (D) := fun Q => (w__law_of_e2 M v_some) fun x4 => pickW M x4 Q
theorem e__law_of_e3 (M : Alg) (v_some : D) : WE M R.v (.call "_law_pick" F__law_pick [(.loc 0), (.bi .len [(.loc 1)])]) [.s, .v v_some] (w__law_of_e3 M v_some) := by
  unfold w__law_of_e3
  exact (we_pick pick_eq rfl (e__law_of_e2 M v_some))
def w__law_of_e4 (M : Alg) (v_some : D) : Wt M (D) := fun Q => (w__law_of_e1 M v_some) fun x1 => (w__law_of_e3 M v_some) fun x2 => lW M (idxD x1 x2) Q
theorem e__law_of_e4 (M : Alg) (v_some : D) : WE M R.v (.idx (.loc 1) (.call "_law_pick" F__law_pick [(.loc 0), (.bi .len [(.loc 1)])])) [.s, .v v_some] (w__law_of_e4 M v_some) := by
  unfold w__law_of_e4
  exact (we_idx (e__law_of_e1 M v_some) (e__law_of_e3 M v_some))
def N__law_of : List Str := ["source", "some"]
def B__law_of : List CS := [.ret (.idx (.loc 1) (.call "_law_pick" F__law_pick [(.loc 0), (.bi .len [(.loc 1)])]))]
def F__law_of : Fn := runF 2 2 B__law_of
def w__law_of (M : Alg) (a1 : D) : Wt M D := fun Q => (w__law_of_e4 M a1) Q
theorem wv__law_of (M : Alg) (a1 : D) : WV M B__law_of [.s, .v a1] (w__law_of M a1) R.v := by
  unfold B__law_of w__law_of
  exact (wv_ret (e__law_of_e4 M a1))
def wl__law_of (M : Alg) : List D → Wt M D
  | [a1] => w__law_of M a1
  | _ => fun _ => M.bad
theorem okw__law_of (M : Alg) : ∀ ds Q, M.H (wl__law_of M ds Q) → ∀ ss, SSok ss → ∃ d ss', F__law_of (.src :: ds.map .v) ss = some ((R.v : D → R) d, ss') ∧ SSok ss' ∧ M.H (Q d) := fun ds Q h ss ok => by
  unfold wl__law_of at h
  split at h
  · exact fw_ok (np := 1) (n := 0) (N := 2) rfl rfl (wv__law_of M _) Q h ss ok
  · exact (M.hbad h).elim
def C_burnt_so_far_b1 : List CS := (.set 3 (.lc (.loc 4) (.tup [.one 4, .one 5]) (.enm (.loc 0)) [(.and (.cmp .notin (.loc 4) (.loc 1)) (.cmp .ge (.bin .add (.bin .add (.loc 5) (.lit (.int 1))) (.bi .len [(.loc 1)])) (.bi .len [(.loc 0)])))]) :: (.frz 3 :: (.ext 1 (.sli (.loc 3) .nop (.lit (.int 1))) :: [])))
def g_burnt_so_far_b1 (v_heap : D) (v_found : D) (v_lap : D) : Option (D) := ((((some v_heap).bind enS).bind (filS (fun (d8 : D) => un2 d8 fun x9 x10 => ((some x9).bind fun x11 => (some v_found).bind fun x12 => cmpD .notin x11 x12).bind fun b21 => if b21 then (((some x10).bind fun x13 => (some (PyData.int 1)).bind fun x14 => addS x13 x14).bind fun x16 => ((some v_found).bind fun x15 => biS .len [x15]).bind fun x17 => addS x16 x17).bind fun x19 => ((some v_heap).bind fun x18 => biS .len [x18]).bind fun x20 => cmpD .ge x19 x20 else some false) (fun (d5 : D) => un2 d5 fun x6 x7 => some x6))).map PyData.list).bind fun s4 => (((some s4).bind fun x23 => (some PyData.none).bind fun x24 => ((some (PyData.int 1)).bind intS).bind fun x25 => sliS x23 x24 x25).bind (extS v_found)).bind fun s22 => some s22
theorem t_burnt_so_far_b1 (v_heap : D) (v_found : D) (v_lap : D) : NL C_burnt_so_far_b1 [.v v_heap, .c v_found, .v v_lap, .j, .j, .j] (g_burnt_so_far_b1 v_heap v_found v_lap) (fun (z26 : D) => [.v v_heap, .c z26, .j, .j, .j, .j]) := by
  unfold C_burnt_so_far_b1 g_burnt_so_far_b1
  exact (nl_nx (ns_eq (q := fun (s4 : D) => [.v v_heap, .c v_found, .v v_lap, .c s4, .j, .j]) (ns_setU (pe_lc1 (pi_enm (pe_v rfl)) (fun d8 => (cc_un2 fun x9 x10 => cc_bt (qs := [.v v_heap, .c v_found, .v v_lap, .j, .v x9, .v x10]) (bt_tup (bts_cons (bt_one (ltl rfl)) (bts_cons (bt_one (ltl rfl)) bts_nil))) (pb_and (pb_cmp (pe_v rfl) (pe_c rfl)) (pb_cmp (pe_bin (pe_bin (pe_v rfl) (PN.pe .v (pn_lit rfl))) (PN.pe .v (pn_bi1 rfl (pe_c rfl)))) (PN.pe .v (pn_bi1 rfl (pe_v rfl))))))) (fun d5 => (ce_un2 fun x6 x7 => ce_bt (qs := [.v v_heap, .c v_found, .v v_lap, .j, .v x6, .v x7]) (bt_tup (bts_cons (bt_one (ltl rfl)) (bts_cons (bt_one (ltl rfl)) bts_nil))) (pe_v rfl)))) (ltl rfl)) (fun _ => rfl)) fun s4 => (nl_frz (i := 3) (d := s4) rfl (nl_nx (ns_eq (q := fun (s22 : D) => [.v v_heap, .c s22, .v v_lap, .v s4, .j, .j]) (ns_ext rfl (pe_sli (pe_v rfl) pp_nop (pp_e rfl (PN.pe .v (pn_lit rfl))))) (fun _ => rfl)) fun s22 => (nl_nil (.e (.e (.j (.j (.j (.j .nil))))))))))
def N_burnt_so_far : List Str := ["heap", "found", "lap", "some", "k", "one"]
def B_burnt_so_far : List CS := (.set 1 (.lst []) :: (.forr (.one 2) (.loc 0) C_burnt_so_far_b1 :: [.ret (.loc 1)]))
def F_burnt_so_far : Fn := runF 1 6 B_burnt_so_far
def g_burnt_so_far (a0 : D) : Option D := ((some []).map PyData.list).bind fun s1 => Option.bind (α := D) (((some a0).bind seqOf).bind fun xs27 => forS (fun (d3 : D) (s2 : D) => g_burnt_so_far_b1 a0 s2 d3) xs27 s1) fun s2 => some s2
theorem vl_burnt_so_far (a0 : D) : VL B_burnt_so_far [.v a0, .j, .j, .j, .j, .j] (g_burnt_so_far a0) canR := by
  unfold B_burnt_so_far g_burnt_so_far
  exact (vl_nx (ns_eq (q := fun (s1 : D) => [.v a0, .c s1, .j, .j, .j, .j]) (ns_setU (pe_lstS (by decide) pss_nil') (ltl rfl)) (fun _ => rfl)) fun s1 => (vl_nx (ns_forV (inv := fun (s2 : D) => [.v a0, .c s2, .j, .j, .j, .j]) rfl rfl (PE.pi (pe_v rfl)) (.e (.e (.j (.j (.j (.j .nil)))))) fun d3 s2 => (nb_bt (qs := [.v a0, .c s2, .v d3, .j, .j, .j]) (bt_one (ltl rfl)) (t_burnt_so_far_b1 a0 s2 d3))) fun s2 => (vl_ret (pe_c rfl))))
theorem ok_burnt_so_far : ∀ a0 d, g_burnt_so_far a0 = some d → ∀ ss, F_burnt_so_far [.v a0] ss = some ((canR : D → R) d, ss) := fun a0 d h ss => fv_ok (np := 1) (n := 5) (N := 6) (as := [a0]) rfl rfl (vl_burnt_so_far a0) h ss
def gl_burnt_so_far : List D → Option D
  | [a0] => g_burnt_so_far a0
  | _ => none
theorem okl_burnt_so_far : ∀ ds d, gl_burnt_so_far ds = some d → ∀ ss, F_burnt_so_far (ds.map .v) ss = some ((canR : D → R) d, ss) := fun ds d h ss => by
  unfold gl_burnt_so_far at h
  split at h
  · exact ok_burnt_so_far _ d h ss
  · cases h
def N_heap_paper : List Str := ["heap", "burnt", "k"]
def B_heap_paper : List CS := (.set 1 (.call "burnt_so_far" F_burnt_so_far [(.loc 0)]) :: (.frz 1 :: (.ite (.cmp .eq (.bi .len [(.loc 1)]) (.bi .len [(.loc 0)])) [.ret (.tup [(.lit (.str "burns")), (.bi .tuple [(.loc 1)])])] [] :: [.ret (.tup [(.lit (.str "lot")), (.bi .tuple [(.lc (.loc 2) (.one 2) (.rg1 (.bi .len [(.loc 0)])) [(.cmp .notin (.loc 2) (.loc 1))])])])])))
def F_heap_paper : Fn := runF 1 3 B_heap_paper
def g_heap_paper (a0 : D) : Option D := ((some a0).bind fun x2 => g_burnt_so_far x2).bind fun s1 => (((some s1).bind fun x3 => biS .len [x3]).bind fun x5 => ((some a0).bind fun x4 => biS .len [x4]).bind fun x6 => cmpD .eq x5 x6).bind fun b7 => if b7 then (((some (PyData.str "burns")).bind fun x11 => (((some s1).bind fun x10 => biS .tuple [x10]).bind fun x8 => (some []).bind fun x9 => some (x8 :: x9)).bind fun x12 => some (x11 :: x12)).map PyData.tuple) else (((some (PyData.str "lot")).bind fun x31 => (((((((some a0).bind fun x25 => biS .len [x25]).bind rg1S).bind (filS (fun (d27 : D) => (some d27).bind fun x28 => (some s1).bind fun x29 => cmpD .notin x28 x29) (fun (d26 : D) => some d26))).map PyData.list).bind fun x30 => biS .tuple [x30]).bind fun x23 => (some []).bind fun x24 => some (x23 :: x24)).bind fun x32 => some (x31 :: x32)).map PyData.tuple)
theorem vl_heap_paper (a0 : D) : VL B_heap_paper [.v a0, .j, .j] (g_heap_paper a0) R.v := by
  unfold B_heap_paper g_heap_paper
  exact (vl_nx (ns_eq (q := fun (s1 : D) => [.v a0, .c s1, .j]) (ns_setU (pe_call1 ok_burnt_so_far (pe_v rfl)) (ltl rfl)) (fun _ => rfl)) fun s1 => (vl_frz (i := 1) (d := s1) rfl (vl_ite (pb_cmp (PN.pe .v (pn_bi1 rfl (pe_v rfl))) (PN.pe .v (pn_bi1 rfl (pe_v rfl)))) (vl_appR (vl_ret (PN.pe .v (pn_tupS (by decide) (pss_cons' (PN.pe .v (pn_lit rfl)) (pss_cons' (PN.pe .v (pn_bi1 rfl (pe_v rfl))) pss_nil')))))) (vl_ret (PN.pe .v (pn_tupS (by decide) (pss_cons' (PN.pe .v (pn_lit rfl)) (pss_cons' (PN.pe .v (pn_bi1 rfl (pe_lc1 (pi_rgA (PN.pe .v (pn_bi1 rfl (pe_v rfl)))) (fun d27 => (cc_bt (qs := [.v a0, .v s1, .v d27]) (bt_one (ltl rfl)) (pb_cmp (pe_v rfl) (pe_v rfl)))) (fun d26 => (ce_bt (qs := [.v a0, .v s1, .v d26]) (bt_one (ltl rfl)) (pe_v rfl)))))) pss_nil'))))))))
theorem ok_heap_paper : ∀ a0 d, g_heap_paper a0 = some d → ∀ ss, F_heap_paper [.v a0] ss = some ((R.v : D → R) d, ss) := fun a0 d h ss => fv_ok (np := 1) (n := 2) (N := 3) (as := [a0]) rfl rfl (vl_heap_paper a0) h ss
def gl_heap_paper : List D → Option D
  | [a0] => g_heap_paper a0
  | _ => none
theorem okl_heap_paper : ∀ ds d, gl_heap_paper ds = some d → ∀ ss, F_heap_paper (ds.map .v) ss = some ((R.v : D → R) d, ss) := fun ds d h ss => by
  unfold gl_heap_paper at h
  split at h
  · exact ok_heap_paper _ d h ss
  · cases h
def C__law_burnt_b1 : List CS := (.set 3 (.lc (.loc 4) (.one 4) (.rg1 (.bi .len [(.loc 0)])) [(.and (.cmp .notin (.loc 4) (.loc 1)) (.cmp .ge (.bin .add (.bin .add (.idx (.loc 0) (.loc 4)) (.lit (.int 1))) (.bi .len [(.loc 1)])) (.bi .len [(.loc 0)])))]) :: (.frz 3 :: (.set 1 (.bin .add (.loc 1) (.sli (.loc 3) (.neg (.lit (.int 1))) .nop)) :: (.frz 1 :: []))))
def g__law_burnt_b1 (v_heap : D) (v_found : D) (v_lap : D) : Option (D) := (((((some v_heap).bind fun x5 => biS .len [x5]).bind rg1S).bind (filS (fun (d7 : D) => ((some d7).bind fun x8 => (some v_found).bind fun x9 => cmpD .notin x8 x9).bind fun b20 => if b20 then ((((some v_heap).bind fun x10 => (some d7).bind fun x11 => idxD x10 x11).bind fun x12 => (some (PyData.int 1)).bind fun x13 => addS x12 x13).bind fun x15 => ((some v_found).bind fun x14 => biS .len [x14]).bind fun x16 => addS x15 x16).bind fun x18 => ((some v_heap).bind fun x17 => biS .len [x17]).bind fun x19 => cmpD .ge x18 x19 else some false) (fun (d6 : D) => some d6))).map PyData.list).bind fun s4 => ((some v_found).bind fun x25 => ((some s4).bind fun x22 => (((some (PyData.int 1)).bind negS).bind intS).bind fun x23 => (some PyData.none).bind fun x24 => sliS x22 x23 x24).bind fun x26 => addS x25 x26).bind fun s21 => some s21
theorem t__law_burnt_b1 (v_heap : D) (v_found : D) (v_lap : D) : NL C__law_burnt_b1 [.v v_heap, .v v_found, .v v_lap, .j, .j] (g__law_burnt_b1 v_heap v_found v_lap) (fun (z27 : D) => [.v v_heap, .v z27, .j, .j, .j]) := by
  unfold C__law_burnt_b1 g__law_burnt_b1
  exact (nl_nx (ns_eq (q := fun (s4 : D) => [.v v_heap, .v v_found, .v v_lap, .c s4, .j]) (ns_setU (pe_lc1 (pi_rgA (PN.pe .v (pn_bi1 rfl (pe_v rfl)))) (fun d7 => (cc_bt (qs := [.v v_heap, .v v_found, .v v_lap, .j, .v d7]) (bt_one (ltl rfl)) (pb_and (pb_cmp (pe_v rfl) (pe_v rfl)) (pb_cmp (pe_bin (pe_bin (pe_idx (pe_v rfl) (pe_v rfl)) (PN.pe .v (pn_lit rfl))) (PN.pe .v (pn_bi1 rfl (pe_v rfl)))) (PN.pe .v (pn_bi1 rfl (pe_v rfl))))))) (fun d6 => (ce_bt (qs := [.v v_heap, .v v_found, .v v_lap, .j, .v d6]) (bt_one (ltl rfl)) (pe_v rfl)))) (ltl rfl)) (fun _ => rfl)) fun s4 => (nl_frz (i := 3) (d := s4) rfl (nl_nx (ns_eq (q := fun (s21 : D) => [.v v_heap, .c s21, .v v_lap, .v s4, .j]) (ns_setU (pe_bin (pe_v rfl) (pe_sli (pe_v rfl) (pp_e rfl (PN.pe .v (pn_neg (PN.pe .v (pn_lit rfl))))) pp_nop)) (ltl rfl)) (fun _ => rfl)) fun s21 => (nl_frz (i := 1) (d := s21) rfl (nl_nil (.e (.e (.j (.j (.j .nil))))))))))
def N__law_burnt : List Str := ["heap", "found", "lap", "some", "k"]
def B__law_burnt : List CS := (.set 1 (.lst []) :: (.frz 1 :: (.forr (.one 2) (.loc 0) C__law_burnt_b1 :: [.ret (.loc 1)])))
def F__law_burnt : Fn := runF 1 5 B__law_burnt
def g__law_burnt (a0 : D) : Option D := ((some []).map PyData.list).bind fun s1 => Option.bind (α := D) (((some a0).bind seqOf).bind fun xs28 => forS (fun (d3 : D) (s2 : D) => g__law_burnt_b1 a0 s2 d3) xs28 s1) fun s2 => some s2
theorem vl__law_burnt (a0 : D) : VL B__law_burnt [.v a0, .j, .j, .j, .j] (g__law_burnt a0) R.v := by
  unfold B__law_burnt g__law_burnt
  exact (vl_nx (ns_eq (q := fun (s1 : D) => [.v a0, .c s1, .j, .j, .j]) (ns_setU (pe_lstS (by decide) pss_nil') (ltl rfl)) (fun _ => rfl)) fun s1 => (vl_frz (i := 1) (d := s1) rfl (vl_nx (ns_forV (inv := fun (s2 : D) => [.v a0, .v s2, .j, .j, .j]) rfl rfl (PE.pi (pe_v rfl)) (.e (.e (.j (.j (.j .nil))))) fun d3 s2 => (nb_bt (qs := [.v a0, .v s2, .v d3, .j, .j]) (bt_one (ltl rfl)) (t__law_burnt_b1 a0 s2 d3))) fun s2 => (vl_ret (pe_v rfl)))))
theorem ok__law_burnt : ∀ a0 d, g__law_burnt a0 = some d → ∀ ss, F__law_burnt [.v a0] ss = some ((R.v : D → R) d, ss) := fun a0 d h ss => fv_ok (np := 1) (n := 4) (N := 5) (as := [a0]) rfl rfl (vl__law_burnt a0) h ss
def gl__law_burnt : List D → Option D
  | [a0] => g__law_burnt a0
  | _ => none
theorem okl__law_burnt : ∀ ds d, gl__law_burnt ds = some d → ∀ ss, F__law_burnt (ds.map .v) ss = some ((R.v : D → R) d, ss) := fun ds d h ss => by
  unfold gl__law_burnt at h
  split at h
  · exact ok__law_burnt _ d h ss
  · cases h
def N_is_whole : List Str := ["value"]
def B_is_whole : List CS := [.ret (.and (.bi .isint [(.loc 0)]) (.not (.bi .isbool [(.loc 0)])))]
def F_is_whole : Fn := runF 1 1 B_is_whole
def g_is_whole (a0 : D) : Option D := ((((some a0).bind (isOf .isint)).bind fun b1 => if b1 then ((some a0).bind (isOf .isbool)).map (!·) else some false).map PyData.bool)
theorem vl_is_whole (a0 : D) : VL B_is_whole [.v a0] (g_is_whole a0) R.v := by
  unfold B_is_whole g_is_whole
  exact (vl_ret (PN.pe .v (PB.pn (pb_and (pb_is (pe_v rfl)) (pb_not (pb_is (pe_v rfl)))))))
theorem ok_is_whole : ∀ a0 d, g_is_whole a0 = some d → ∀ ss, F_is_whole [.v a0] ss = some ((R.v : D → R) d, ss) := fun a0 d h ss => fv_ok (np := 1) (n := 0) (N := 1) (as := [a0]) rfl rfl (vl_is_whole a0) h ss
def gl_is_whole : List D → Option D
  | [a0] => g_is_whole a0
  | _ => none
theorem okl_is_whole : ∀ ds d, gl_is_whole ds = some d → ∀ ss, F_is_whole (ds.map .v) ss = some ((R.v : D → R) d, ss) := fun ds d h ss => by
  unfold gl_is_whole at h
  split at h
  · exact ok_is_whole _ d h ss
  · cases h
def N_are_numbers : List Str := ["value", "one"]
def B_are_numbers : List CS := [.ret (.and (.bi .istuple [(.loc 0)]) (.bi .all [(.lc (.and (.call "is_whole" F_is_whole [(.loc 1)]) (.cmp .ge (.loc 1) (.lit (.int 0)))) (.one 1) (.loc 0) [])]))]
def F_are_numbers : Fn := runF 1 2 B_are_numbers
def g_are_numbers (a0 : D) : Option D := ((((some a0).bind (isOf .istuple)).bind fun b6 => if b6 then ((((some a0).bind seqOf).bind (mapS (fun (d1 : D) => ((((((some d1).bind fun x2 => g_is_whole x2).bind boolS)).bind fun b5 => if b5 then (some d1).bind fun x3 => (some (PyData.int 0)).bind fun x4 => cmpD .ge x3 x4 else some false).map PyData.bool)))).map PyData.list).bind (allS .all) else some false).map PyData.bool)
theorem vl_are_numbers (a0 : D) : VL B_are_numbers [.v a0, .j] (g_are_numbers a0) R.v := by
  unfold B_are_numbers g_are_numbers
  exact (vl_ret (PN.pe .v (PB.pn (pb_and (pb_is (pe_v rfl)) (pb_all (pe_lc0 (PE.pi (pe_v rfl)) (fun d1 => (ce_bt (qs := [.v a0, .v d1]) (bt_one (ltl rfl)) (PN.pe .v (PB.pn (pb_and (PE.pb (pe_call1 ok_is_whole (pe_v rfl))) (pb_cmp (pe_v rfl) (PN.pe .v (pn_lit rfl))))))))))))))
theorem ok_are_numbers : ∀ a0 d, g_are_numbers a0 = some d → ∀ ss, F_are_numbers [.v a0] ss = some ((R.v : D → R) d, ss) := fun a0 d h ss => fv_ok (np := 1) (n := 1) (N := 2) (as := [a0]) rfl rfl (vl_are_numbers a0) h ss
def gl_are_numbers : List D → Option D
  | [a0] => g_are_numbers a0
  | _ => none
theorem okl_are_numbers : ∀ ds d, gl_are_numbers ds = some d → ∀ ss, F_are_numbers (ds.map .v) ss = some ((R.v : D → R) d, ss) := fun ds d h ss => by
  unfold gl_are_numbers at h
  split at h
  · exact ok_are_numbers _ d h ss
  · cases h
def C_judge_heap_k4 : List CS := (.set 3 (.lc (.loc 4) (.one 4) (.loc 2) [(.cmp .ge (.idx (.loc 0) (.loc 4)) (.bin .sub (.bi .len [(.loc 2)]) (.lit (.int 1))))]) :: (.frz 3 :: [.ret (.ife (.cmp .ne (.loc 3) (.lst [])) (.tup [(.lit (.str "lot")), (.idx (.loc 3) (.lit (.int 0)))]) (.lit .none))]))
def g_judge_heap_k4 (v_heap : D) (v_told : D) : Option D := ((((some v_told).bind seqOf).bind (filS (fun (d90 : D) => ((some v_heap).bind fun x91 => (some d90).bind fun x92 => idxD x91 x92).bind fun x96 => (((some v_told).bind fun x93 => biS .len [x93]).bind fun x94 => (some (PyData.int 1)).bind fun x95 => subS x94 x95).bind fun x97 => cmpD .ge x96 x97) (fun (d89 : D) => some d89))).map PyData.list).bind fun s88 => ((some s88).bind fun x98 => ((some []).map PyData.list).bind fun x99 => cmpD .ne x98 x99).bind fun b106 => if b106 then ((some (PyData.str "lot")).bind fun x104 => (((some s88).bind fun x102 => (some (PyData.int 0)).bind fun x103 => idxD x102 x103).bind fun x100 => (some []).bind fun x101 => some (x100 :: x101)).bind fun x105 => some (x104 :: x105)).map PyData.tuple else some (PyData.none)
theorem t_judge_heap_k4 (v_heap : D) (v_told : D) : VL C_judge_heap_k4 [.v v_heap, .j, .v v_told, .j, .j, .j] (g_judge_heap_k4 v_heap v_told) R.v := by
  unfold C_judge_heap_k4 g_judge_heap_k4
  exact (vl_nx (ns_eq (q := fun (s88 : D) => [.v v_heap, .j, .v v_told, .c s88, .j, .j]) (ns_setU (pe_lc1 (PE.pi (pe_v rfl)) (fun d90 => (cc_bt (qs := [.v v_heap, .j, .v v_told, .j, .v d90, .j]) (bt_one (ltl rfl)) (pb_cmp (pe_idx (pe_v rfl) (pe_v rfl)) (PN.pe .v (pn_bin rfl (PN.pe .v (pn_bi1 rfl (pe_v rfl))) (PN.pe .v (pn_lit rfl))))))) (fun d89 => (ce_bt (qs := [.v v_heap, .j, .v v_told, .j, .v d89, .j]) (bt_one (ltl rfl)) (pe_v rfl)))) (ltl rfl)) (fun _ => rfl)) fun s88 => (vl_frz (i := 3) (d := s88) rfl (vl_ret (PN.pe .v (pn_ife (pb_cmp (pe_v rfl) (pe_lstS (by decide) pss_nil')) (pn_tupS (by decide) (pss_cons' (PN.pe .v (pn_lit rfl)) (pss_cons' (pe_idx (pe_v rfl) (PN.pe .v (pn_lit rfl))) pss_nil'))) (pn_lit rfl))))))
def C_judge_heap_k3 : List CS := (.ite (.cmp .ne (.lc (.loc 5) (.one 5) (.rg2 (.lit (.int 1)) (.bi .len [(.loc 2)])) [(.cmp .le (.idx (.loc 2) (.loc 5)) (.idx (.loc 2) (.bin .sub (.loc 5) (.lit (.int 1)))))]) (.lst [])) [.ret (.tup [(.lit (.str "form"))])] [] :: C_judge_heap_k4)
def g_judge_heap_k3 (v_heap : D) (v_told : D) : Option D := (((((some (PyData.int 1)).bind fun x71 => ((some v_told).bind fun x70 => biS .len [x70]).bind fun x72 => rg2S x71 x72).bind (filS (fun (d74 : D) => ((some v_told).bind fun x75 => (some d74).bind fun x76 => idxD x75 x76).bind fun x81 => ((some v_told).bind fun x79 => ((some d74).bind fun x77 => (some (PyData.int 1)).bind fun x78 => subS x77 x78).bind fun x80 => idxD x79 x80).bind fun x82 => cmpD .le x81 x82) (fun (d73 : D) => some d73))).map PyData.list).bind fun x83 => ((some []).map PyData.list).bind fun x84 => cmpD .ne x83 x84).bind fun b85 => if b85 then (((some (PyData.str "form")).bind fun x86 => (some []).bind fun x87 => some (x86 :: x87)).map PyData.tuple) else (g_judge_heap_k4 v_heap v_told)
theorem t_judge_heap_k3 (v_heap : D) (v_told : D) : VL C_judge_heap_k3 [.v v_heap, .j, .v v_told, .j, .j, .j] (g_judge_heap_k3 v_heap v_told) R.v := by
  unfold C_judge_heap_k3 g_judge_heap_k3
  exact (vl_ite (pb_cmp (pe_lc1 (pi_rgB (PN.pe .v (pn_lit rfl)) (PN.pe .v (pn_bi1 rfl (pe_v rfl)))) (fun d74 => (cc_bt (qs := [.v v_heap, .j, .v v_told, .j, .j, .v d74]) (bt_one (ltl rfl)) (pb_cmp (pe_idx (pe_v rfl) (pe_v rfl)) (pe_idx (pe_v rfl) (PN.pe .v (pn_bin rfl (pe_v rfl) (PN.pe .v (pn_lit rfl)))))))) (fun d73 => (ce_bt (qs := [.v v_heap, .j, .v v_told, .j, .j, .v d73]) (bt_one (ltl rfl)) (pe_v rfl)))) (pe_lstS (by decide) pss_nil')) (vl_appR (vl_ret (PN.pe .v (pn_tupS (by decide) (pss_cons' (PN.pe .v (pn_lit rfl)) pss_nil'))))) (vl_wk (.e (.j (.e (.j (.j (.j .nil)))))) (t_judge_heap_k4 v_heap v_told)))
def C_judge_heap_k2 : List CS := (.ite (.or (.cmp .ne (.idx (.loc 1) (.lit (.int 0))) (.lit (.str "lot"))) (.or (.cmp .eq (.loc 2) (.tup [])) (.cmp .ge (.bi .max1 [(.loc 2)]) (.bi .len [(.loc 0)])))) [.ret (.tup [(.lit (.str "form"))])] [] :: C_judge_heap_k3)
def g_judge_heap_k2 (v_heap : D) (v_value : D) (v_told : D) : Option D := ((((some v_value).bind fun x55 => (some (PyData.int 0)).bind fun x56 => idxD x55 x56).bind fun x57 => (some (PyData.str "lot")).bind fun x58 => cmpD .ne x57 x58).bind fun b66 => if b66 then some true else ((some v_told).bind fun x59 => ((some []).map PyData.tuple).bind fun x60 => cmpD .eq x59 x60).bind fun b65 => if b65 then some true else ((some v_told).bind fun x61 => biS .max1 [x61]).bind fun x63 => ((some v_heap).bind fun x62 => biS .len [x62]).bind fun x64 => cmpD .ge x63 x64).bind fun b67 => if b67 then (((some (PyData.str "form")).bind fun x68 => (some []).bind fun x69 => some (x68 :: x69)).map PyData.tuple) else (g_judge_heap_k3 v_heap v_told)
theorem t_judge_heap_k2 (v_heap : D) (v_value : D) (v_told : D) : VL C_judge_heap_k2 [.v v_heap, .v v_value, .v v_told, .j, .j, .j] (g_judge_heap_k2 v_heap v_value v_told) R.v := by
  unfold C_judge_heap_k2 g_judge_heap_k2
  exact (vl_ite (pb_or (pb_cmp (pe_idx (pe_v rfl) (PN.pe .v (pn_lit rfl))) (PN.pe .v (pn_lit rfl))) (pb_or (pb_cmp (pe_v rfl) (PN.pe .v (pn_tupS (by decide) pss_nil'))) (pb_cmp (PN.pe .v (pn_bi1 rfl (pe_v rfl))) (PN.pe .v (pn_bi1 rfl (pe_v rfl)))))) (vl_appR (vl_ret (PN.pe .v (pn_tupS (by decide) (pss_cons' (PN.pe .v (pn_lit rfl)) pss_nil'))))) (vl_wk (.e (.j (.e (.j (.j (.j .nil)))))) (t_judge_heap_k3 v_heap v_told)))
def C_judge_heap_k1 : List CS := (.set 2 (.idx (.loc 1) (.lit (.int 1))) :: (.ite (.and (.cmp .eq (.idx (.loc 1) (.lit (.int 0))) (.lit (.str "burns"))) (.cmp .eq (.bi .sorted [(.loc 2)]) (.lst [.star (.rg1 (.bi .len [(.loc 0)]))]))) (.set 3 (.lc (.loc 5) (.tup [.one 5, .one 4]) (.enm (.loc 2)) [(.cmp .lt (.bin .add (.bin .add (.idx (.loc 0) (.loc 4)) (.lit (.int 1))) (.loc 5)) (.bi .len [(.loc 0)]))]) :: (.frz 3 :: [.ret (.ife (.cmp .ne (.loc 3) (.lst [])) (.tup [(.lit (.str "burns")), (.idx (.loc 3) (.lit (.int 0)))]) (.lit .none))])) [] :: C_judge_heap_k2))
def g_judge_heap_k1 (v_heap : D) (v_value : D) : Option D := ((some v_value).bind fun x16 => (some (PyData.int 1)).bind fun x17 => idxD x16 x17).bind fun s15 => ((((some v_value).bind fun x18 => (some (PyData.int 0)).bind fun x19 => idxD x18 x19).bind fun x20 => (some (PyData.str "burns")).bind fun x21 => cmpD .eq x20 x21).bind fun b28 => if b28 then ((some s15).bind fun x22 => biS .sorted [x22]).bind fun x26 => ((((((some v_heap).bind fun x23 => biS .len [x23]).bind rg1S).bind fun x24 => (some []).bind fun x25 => some (x24 ++ x25)).bind shortS).map PyData.list).bind fun x27 => cmpD .eq x26 x27 else some false).bind fun b29 => if b29 then (((((some s15).bind enS).bind (filS (fun (d34 : D) => un2 d34 fun x35 x36 => ((((some v_heap).bind fun x37 => (some x36).bind fun x38 => idxD x37 x38).bind fun x39 => (some (PyData.int 1)).bind fun x40 => addS x39 x40).bind fun x41 => (some x35).bind fun x42 => addS x41 x42).bind fun x44 => ((some v_heap).bind fun x43 => biS .len [x43]).bind fun x45 => cmpD .lt x44 x45) (fun (d31 : D) => un2 d31 fun x32 x33 => some x32))).map PyData.list).bind fun s30 => ((some s30).bind fun x46 => ((some []).map PyData.list).bind fun x47 => cmpD .ne x46 x47).bind fun b54 => if b54 then ((some (PyData.str "burns")).bind fun x52 => (((some s30).bind fun x50 => (some (PyData.int 0)).bind fun x51 => idxD x50 x51).bind fun x48 => (some []).bind fun x49 => some (x48 :: x49)).bind fun x53 => some (x52 :: x53)).map PyData.tuple else some (PyData.none)) else (g_judge_heap_k2 v_heap v_value s15)
theorem t_judge_heap_k1 (v_heap : D) (v_value : D) : VL C_judge_heap_k1 [.v v_heap, .v v_value, .j, .j, .j, .j] (g_judge_heap_k1 v_heap v_value) R.v := by
  unfold C_judge_heap_k1 g_judge_heap_k1
  exact (vl_nx (ns_eq (q := fun (s15 : D) => [.v v_heap, .v v_value, .v s15, .j, .j, .j]) (ns_setU (pe_idx (pe_v rfl) (PN.pe .v (pn_lit rfl))) (ltl rfl)) (fun _ => rfl)) fun s15 => (vl_ite (pb_and (pb_cmp (pe_idx (pe_v rfl) (PN.pe .v (pn_lit rfl))) (PN.pe .v (pn_lit rfl))) (pb_cmp (pe_bi1 (pe_v rfl)) (pe_lst (px_star (pi_rgA (PN.pe .v (pn_bi1 rfl (pe_v rfl)))) px_nil)))) (vl_appR (vl_nx (ns_eq (q := fun (s30 : D) => [.v v_heap, .v v_value, .v s15, .c s30, .j, .j]) (ns_setU (pe_lc1 (pi_enm (pe_v rfl)) (fun d34 => (cc_un2 fun x35 x36 => cc_bt (qs := [.v v_heap, .v v_value, .v s15, .j, .v x36, .v x35]) (bt_tup (bts_cons (bt_one (ltl rfl)) (bts_cons (bt_one (ltl rfl)) bts_nil))) (pb_cmp (pe_bin (pe_bin (pe_idx (pe_v rfl) (pe_v rfl)) (PN.pe .v (pn_lit rfl))) (pe_v rfl)) (PN.pe .v (pn_bi1 rfl (pe_v rfl)))))) (fun d31 => (ce_un2 fun x32 x33 => ce_bt (qs := [.v v_heap, .v v_value, .v s15, .j, .v x33, .v x32]) (bt_tup (bts_cons (bt_one (ltl rfl)) (bts_cons (bt_one (ltl rfl)) bts_nil))) (pe_v rfl)))) (ltl rfl)) (fun _ => rfl)) fun s30 => (vl_frz (i := 3) (d := s30) rfl (vl_ret (PN.pe .v (pn_ife (pb_cmp (pe_v rfl) (pe_lstS (by decide) pss_nil')) (pn_tupS (by decide) (pss_cons' (PN.pe .v (pn_lit rfl)) (pss_cons' (pe_idx (pe_v rfl) (PN.pe .v (pn_lit rfl))) pss_nil'))) (pn_lit rfl))))))) (vl_wk (.e (.e (.e (.j (.j (.j .nil)))))) (t_judge_heap_k2 v_heap v_value s15))))
def N_judge_heap : List Str := ["heap", "value", "told", "wrong", "k", "i"]
def B_judge_heap : List CS := (.ite (.or (.not (.bi .istuple [(.loc 1)])) (.or (.cmp .ne (.bi .len [(.loc 1)]) (.lit (.int 2))) (.or (.not (.bi .isstr [(.idx (.loc 1) (.lit (.int 0)))])) (.not (.call "are_numbers" F_are_numbers [(.idx (.loc 1) (.lit (.int 1)))]))))) [.ret (.tup [(.lit (.str "form"))])] [] :: C_judge_heap_k1)
def F_judge_heap : Fn := runF 2 6 B_judge_heap
def g_judge_heap (a0 : D) (a1 : D) : Option D := ((((some a1).bind (isOf .istuple)).map (!·)).bind fun b11 => if b11 then some true else (((some a1).bind fun x1 => biS .len [x1]).bind fun x2 => (some (PyData.int 2)).bind fun x3 => cmpD .ne x2 x3).bind fun b10 => if b10 then some true else ((((some a1).bind fun x4 => (some (PyData.int 0)).bind fun x5 => idxD x4 x5).bind (isOf .isstr)).map (!·)).bind fun b9 => if b9 then some true else (((((some a1).bind fun x6 => (some (PyData.int 1)).bind fun x7 => idxD x6 x7).bind fun x8 => g_are_numbers x8).bind boolS)).map (!·)).bind fun b12 => if b12 then (((some (PyData.str "form")).bind fun x13 => (some []).bind fun x14 => some (x13 :: x14)).map PyData.tuple) else (g_judge_heap_k1 a0 a1)
theorem vl_judge_heap (a0 : D) (a1 : D) : VL B_judge_heap [.v a0, .v a1, .j, .j, .j, .j] (g_judge_heap a0 a1) R.v := by
  unfold B_judge_heap g_judge_heap
  exact (vl_ite (pb_or (pb_not (pb_is (pe_v rfl))) (pb_or (pb_cmp (PN.pe .v (pn_bi1 rfl (pe_v rfl))) (PN.pe .v (pn_lit rfl))) (pb_or (pb_not (pb_is (pe_idx (pe_v rfl) (PN.pe .v (pn_lit rfl))))) (pb_not (PE.pb (pe_call1 ok_are_numbers (pe_idx (pe_v rfl) (PN.pe .v (pn_lit rfl))))))))) (vl_appR (vl_ret (PN.pe .v (pn_tupS (by decide) (pss_cons' (PN.pe .v (pn_lit rfl)) pss_nil'))))) (vl_wk (.e (.e (.j (.j (.j (.j .nil)))))) (t_judge_heap_k1 a0 a1)))
theorem ok_judge_heap : ∀ a0 a1 d, g_judge_heap a0 a1 = some d → ∀ ss, F_judge_heap [.v a0, .v a1] ss = some ((R.v : D → R) d, ss) := fun a0 a1 d h ss => fv_ok (np := 2) (n := 4) (N := 6) (as := [a0, a1]) rfl rfl (vl_judge_heap a0 a1) h ss
def gl_judge_heap : List D → Option D
  | [a0, a1] => g_judge_heap a0 a1
  | _ => none
theorem okl_judge_heap : ∀ ds d, gl_judge_heap ds = some d → ∀ ss, F_judge_heap (ds.map .v) ss = some ((R.v : D → R) d, ss) := fun ds d h ss => by
  unfold gl_judge_heap at h
  split at h
  · exact ok_judge_heap _ _ d h ss
  · cases h
def N__law_is_int : List Str := ["value"]
def B__law_is_int : List CS := [.ret (.and (.bi .isint [(.loc 0)]) (.not (.bi .isbool [(.loc 0)])))]
def F__law_is_int : Fn := runF 1 1 B__law_is_int
def g__law_is_int (a0 : D) : Option D := ((((some a0).bind (isOf .isint)).bind fun b1 => if b1 then ((some a0).bind (isOf .isbool)).map (!·) else some false).map PyData.bool)
theorem vl__law_is_int (a0 : D) : VL B__law_is_int [.v a0] (g__law_is_int a0) R.v := by
  unfold B__law_is_int g__law_is_int
  exact (vl_ret (PN.pe .v (PB.pn (pb_and (pb_is (pe_v rfl)) (pb_not (pb_is (pe_v rfl)))))))
theorem ok__law_is_int : ∀ a0 d, g__law_is_int a0 = some d → ∀ ss, F__law_is_int [.v a0] ss = some ((R.v : D → R) d, ss) := fun a0 d h ss => fv_ok (np := 1) (n := 0) (N := 1) (as := [a0]) rfl rfl (vl__law_is_int a0) h ss
def gl__law_is_int : List D → Option D
  | [a0] => g__law_is_int a0
  | _ => none
theorem okl__law_is_int : ∀ ds d, gl__law_is_int ds = some d → ∀ ss, F__law_is_int (ds.map .v) ss = some ((R.v : D → R) d, ss) := fun ds d h ss => by
  unfold gl__law_is_int at h
  split at h
  · exact ok__law_is_int _ d h ss
  · cases h
def C__law_fault_k3 : List CS := (.set 4 (.lc (.loc 7) (.tup [.one 7, .one 5]) (.enm (.loc 3)) [(.cmp .lt (.bin .add (.bin .add (.idx (.loc 0) (.loc 5)) (.lit (.int 1))) (.loc 7)) (.loc 2))]) :: (.frz 4 :: [.ret (.ife (.cmp .ne (.loc 4) (.lst [])) (.tup [(.lit (.str "burns")), (.idx (.loc 4) (.lit (.int 0)))]) (.lit .none))]))
def g__law_fault_k3 (v_heap : D) (v_m : D) (v_told : D) : Option D := ((((some v_told).bind enS).bind (filS (fun (d54 : D) => un2 d54 fun x55 x56 => ((((some v_heap).bind fun x57 => (some x56).bind fun x58 => idxD x57 x58).bind fun x59 => (some (PyData.int 1)).bind fun x60 => addS x59 x60).bind fun x61 => (some x55).bind fun x62 => addS x61 x62).bind fun x63 => (some v_m).bind fun x64 => cmpD .lt x63 x64) (fun (d51 : D) => un2 d51 fun x52 x53 => some x52))).map PyData.list).bind fun s50 => ((some s50).bind fun x65 => ((some []).map PyData.list).bind fun x66 => cmpD .ne x65 x66).bind fun b73 => if b73 then ((some (PyData.str "burns")).bind fun x71 => (((some s50).bind fun x69 => (some (PyData.int 0)).bind fun x70 => idxD x69 x70).bind fun x67 => (some []).bind fun x68 => some (x67 :: x68)).bind fun x72 => some (x71 :: x72)).map PyData.tuple else some (PyData.none)
theorem t__law_fault_k3 (v_heap : D) (v_m : D) (v_told : D) : VL C__law_fault_k3 [.v v_heap, .j, .v v_m, .v v_told, .j, .j, .j, .j] (g__law_fault_k3 v_heap v_m v_told) R.v := by
  unfold C__law_fault_k3 g__law_fault_k3
  exact (vl_nx (ns_eq (q := fun (s50 : D) => [.v v_heap, .j, .v v_m, .v v_told, .c s50, .j, .j, .j]) (ns_setU (pe_lc1 (pi_enm (pe_v rfl)) (fun d54 => (cc_un2 fun x55 x56 => cc_bt (qs := [.v v_heap, .j, .v v_m, .v v_told, .j, .v x56, .j, .v x55]) (bt_tup (bts_cons (bt_one (ltl rfl)) (bts_cons (bt_one (ltl rfl)) bts_nil))) (pb_cmp (pe_bin (pe_bin (pe_idx (pe_v rfl) (pe_v rfl)) (PN.pe .v (pn_lit rfl))) (pe_v rfl)) (pe_v rfl)))) (fun d51 => (ce_un2 fun x52 x53 => ce_bt (qs := [.v v_heap, .j, .v v_m, .v v_told, .j, .v x53, .j, .v x52]) (bt_tup (bts_cons (bt_one (ltl rfl)) (bts_cons (bt_one (ltl rfl)) bts_nil))) (pe_v rfl)))) (ltl rfl)) (fun _ => rfl)) fun s50 => (vl_frz (i := 4) (d := s50) rfl (vl_ret (PN.pe .v (pn_ife (pb_cmp (pe_v rfl) (pe_lstS (by decide) pss_nil')) (pn_tupS (by decide) (pss_cons' (PN.pe .v (pn_lit rfl)) (pss_cons' (pe_idx (pe_v rfl) (PN.pe .v (pn_lit rfl))) pss_nil'))) (pn_lit rfl))))))
def C__law_fault_k5 : List CS := (.set 4 (.lc (.loc 5) (.one 5) (.loc 3) [(.cmp .ge (.idx (.loc 0) (.loc 5)) (.bin .sub (.bi .len [(.loc 3)]) (.lit (.int 1))))]) :: (.frz 4 :: [.ret (.ife (.cmp .ne (.loc 4) (.lst [])) (.tup [(.lit (.str "lot")), (.idx (.loc 4) (.lit (.int 0)))]) (.lit .none))]))
def g__law_fault_k5 (v_heap : D) (v_told : D) : Option D := ((((some v_told).bind seqOf).bind (filS (fun (d90 : D) => ((some v_heap).bind fun x91 => (some d90).bind fun x92 => idxD x91 x92).bind fun x96 => (((some v_told).bind fun x93 => biS .len [x93]).bind fun x94 => (some (PyData.int 1)).bind fun x95 => subS x94 x95).bind fun x97 => cmpD .ge x96 x97) (fun (d89 : D) => some d89))).map PyData.list).bind fun s88 => ((some s88).bind fun x98 => ((some []).map PyData.list).bind fun x99 => cmpD .ne x98 x99).bind fun b106 => if b106 then ((some (PyData.str "lot")).bind fun x104 => (((some s88).bind fun x102 => (some (PyData.int 0)).bind fun x103 => idxD x102 x103).bind fun x100 => (some []).bind fun x101 => some (x100 :: x101)).bind fun x105 => some (x104 :: x105)).map PyData.tuple else some (PyData.none)
theorem t__law_fault_k5 (v_heap : D) (v_told : D) : VL C__law_fault_k5 [.v v_heap, .j, .j, .v v_told, .j, .j, .j, .j] (g__law_fault_k5 v_heap v_told) R.v := by
  unfold C__law_fault_k5 g__law_fault_k5
  exact (vl_nx (ns_eq (q := fun (s88 : D) => [.v v_heap, .j, .j, .v v_told, .c s88, .j, .j, .j]) (ns_setU (pe_lc1 (PE.pi (pe_v rfl)) (fun d90 => (cc_bt (qs := [.v v_heap, .j, .j, .v v_told, .j, .v d90, .j, .j]) (bt_one (ltl rfl)) (pb_cmp (pe_idx (pe_v rfl) (pe_v rfl)) (PN.pe .v (pn_bin rfl (PN.pe .v (pn_bi1 rfl (pe_v rfl))) (PN.pe .v (pn_lit rfl))))))) (fun d89 => (ce_bt (qs := [.v v_heap, .j, .j, .v v_told, .j, .v d89, .j, .j]) (bt_one (ltl rfl)) (pe_v rfl)))) (ltl rfl)) (fun _ => rfl)) fun s88 => (vl_frz (i := 4) (d := s88) rfl (vl_ret (PN.pe .v (pn_ife (pb_cmp (pe_v rfl) (pe_lstS (by decide) pss_nil')) (pn_tupS (by decide) (pss_cons' (PN.pe .v (pn_lit rfl)) (pss_cons' (pe_idx (pe_v rfl) (PN.pe .v (pn_lit rfl))) pss_nil'))) (pn_lit rfl))))))
def C__law_fault_k4 : List CS := (.ite (.or (.cmp .eq (.loc 3) (.tup [])) (.cmp .ne (.bi .list [(.loc 3)]) (.dof true (.lc (.tup [(.loc 6), (.lit (.int 0))]) (.one 6) (.loc 3) [])))) [.ret (.tup [(.lit (.str "form"))])] [] :: C__law_fault_k5)
def g__law_fault_k4 (v_heap : D) (v_told : D) : Option D := (((some v_told).bind fun x74 => ((some []).map PyData.tuple).bind fun x75 => cmpD .eq x74 x75).bind fun b84 => if b84 then some true else ((some v_told).bind fun x76 => biS .list [x76]).bind fun x82 => (((((some v_told).bind seqOf).bind (mapS (fun (d77 : D) => ((some d77).bind fun x80 => ((some (PyData.int 0)).bind fun x78 => (some []).bind fun x79 => some (x78 :: x79)).bind fun x81 => some (x80 :: x81)).map PyData.tuple))).map PyData.list).bind (dofS true)).bind fun x83 => cmpD .ne x82 x83).bind fun b85 => if b85 then (((some (PyData.str "form")).bind fun x86 => (some []).bind fun x87 => some (x86 :: x87)).map PyData.tuple) else (g__law_fault_k5 v_heap v_told)
theorem t__law_fault_k4 (v_heap : D) (v_told : D) : VL C__law_fault_k4 [.v v_heap, .j, .j, .v v_told, .j, .j, .j, .j] (g__law_fault_k4 v_heap v_told) R.v := by
  unfold C__law_fault_k4 g__law_fault_k4
  exact (vl_ite (pb_or (pb_cmp (pe_v rfl) (PN.pe .v (pn_tupS (by decide) pss_nil'))) (pb_cmp (pe_bi1 (pe_v rfl)) (pe_dof (pe_lc0 (PE.pi (pe_v rfl)) (fun d77 => (ce_bt (qs := [.v v_heap, .j, .j, .v v_told, .j, .j, .v d77, .j]) (bt_one (ltl rfl)) (PN.pe .v (pn_tupS (by decide) (pss_cons' (pe_v rfl) (pss_cons' (PN.pe .v (pn_lit rfl)) pss_nil')))))))))) (vl_appR (vl_ret (PN.pe .v (pn_tupS (by decide) (pss_cons' (PN.pe .v (pn_lit rfl)) pss_nil'))))) (vl_wk (.e (.j (.j (.e (.j (.j (.j (.j .nil)))))))) (t__law_fault_k5 v_heap v_told)))
def C__law_fault_k2 : List CS := (.ite (.cmp .eq (.idx (.loc 1) (.lit (.int 0))) (.lit (.str "burns"))) (.ite (.cmp .ne (.bi .sorted [(.loc 3)]) (.lst [.star (.rg1 (.loc 2))])) [.ret (.tup [(.lit (.str "form"))])] [] :: C__law_fault_k3) [] :: C__law_fault_k4)
def g__law_fault_k2 (v_heap : D) (v_value : D) (v_m : D) (v_told : D) : Option D := (((some v_value).bind fun x37 => (some (PyData.int 0)).bind fun x38 => idxD x37 x38).bind fun x39 => (some (PyData.str "burns")).bind fun x40 => cmpD .eq x39 x40).bind fun b41 => if b41 then ((((some v_told).bind fun x42 => biS .sorted [x42]).bind fun x45 => (((((some v_m).bind rg1S).bind fun x43 => (some []).bind fun x44 => some (x43 ++ x44)).bind shortS).map PyData.list).bind fun x46 => cmpD .ne x45 x46).bind fun b47 => if b47 then (((some (PyData.str "form")).bind fun x48 => (some []).bind fun x49 => some (x48 :: x49)).map PyData.tuple) else (g__law_fault_k3 v_heap v_m v_told)) else (g__law_fault_k4 v_heap v_told)
theorem t__law_fault_k2 (v_heap : D) (v_value : D) (v_m : D) (v_told : D) : VL C__law_fault_k2 [.v v_heap, .v v_value, .v v_m, .v v_told, .j, .j, .j, .j] (g__law_fault_k2 v_heap v_value v_m v_told) R.v := by
  unfold C__law_fault_k2 g__law_fault_k2
  exact (vl_ite (pb_cmp (pe_idx (pe_v rfl) (PN.pe .v (pn_lit rfl))) (PN.pe .v (pn_lit rfl))) (vl_appR (vl_ite (pb_cmp (pe_bi1 (pe_v rfl)) (pe_lst (px_star (pi_rgA (pe_v rfl)) px_nil))) (vl_appR (vl_ret (PN.pe .v (pn_tupS (by decide) (pss_cons' (PN.pe .v (pn_lit rfl)) pss_nil'))))) (vl_wk (.e (.j (.e (.e (.j (.j (.j (.j .nil)))))))) (t__law_fault_k3 v_heap v_m v_told)))) (vl_wk (.e (.j (.j (.e (.j (.j (.j (.j .nil)))))))) (t__law_fault_k4 v_heap v_told)))
def C__law_fault_k1 : List CS := (.set 3 (.idx (.loc 1) (.lit (.int 1))) :: (.ite (.or (.not (.bi .istuple [(.loc 3)])) (.cmp .ne (.lc (.loc 6) (.one 6) (.loc 3) [(.or (.not (.call "_law_is_int" F__law_is_int [(.loc 6)])) (.not (.cmp2 .le .lt (.lit (.int 0)) (.loc 6) (.loc 2))))]) (.lst []))) [.ret (.tup [(.lit (.str "form"))])] [] :: C__law_fault_k2))
def g__law_fault_k1 (v_heap : D) (v_value : D) (v_m : D) : Option D := ((some v_value).bind fun x21 => (some (PyData.int 1)).bind fun x22 => idxD x21 x22).bind fun s20 => ((((some s20).bind (isOf .istuple)).map (!·)).bind fun b33 => if b33 then some true else ((((some s20).bind seqOf).bind (filS (fun (d24 : D) => (((((some d24).bind fun x25 => g__law_is_int x25).bind boolS)).map (!·)).bind fun b30 => if b30 then some true else ((some (PyData.int 0)).bind fun x28 => (some d24).bind fun x29 => (cmpD .le x28 x29).bind fun b27 => if b27 then (some v_m).bind fun x26 => cmpD .lt x29 x26 else some false).map (!·)) (fun (d23 : D) => some d23))).map PyData.list).bind fun x31 => ((some []).map PyData.list).bind fun x32 => cmpD .ne x31 x32).bind fun b34 => if b34 then (((some (PyData.str "form")).bind fun x35 => (some []).bind fun x36 => some (x35 :: x36)).map PyData.tuple) else (g__law_fault_k2 v_heap v_value v_m s20)
theorem t__law_fault_k1 (v_heap : D) (v_value : D) (v_m : D) : VL C__law_fault_k1 [.v v_heap, .v v_value, .v v_m, .j, .j, .j, .j, .j] (g__law_fault_k1 v_heap v_value v_m) R.v := by
  unfold C__law_fault_k1 g__law_fault_k1
  exact (vl_nx (ns_eq (q := fun (s20 : D) => [.v v_heap, .v v_value, .v v_m, .v s20, .j, .j, .j, .j]) (ns_setU (pe_idx (pe_v rfl) (PN.pe .v (pn_lit rfl))) (ltl rfl)) (fun _ => rfl)) fun s20 => (vl_ite (pb_or (pb_not (pb_is (pe_v rfl))) (pb_cmp (pe_lc1 (PE.pi (pe_v rfl)) (fun d24 => (cc_bt (qs := [.v v_heap, .v v_value, .v v_m, .v s20, .j, .j, .v d24, .j]) (bt_one (ltl rfl)) (pb_or (pb_not (PE.pb (pe_call1 ok__law_is_int (pe_v rfl)))) (pb_not (pb_cmp2 (PN.pe .v (pn_lit rfl)) (pe_v rfl) (pe_v rfl)))))) (fun d23 => (ce_bt (qs := [.v v_heap, .v v_value, .v v_m, .v s20, .j, .j, .v d23, .j]) (bt_one (ltl rfl)) (pe_v rfl)))) (pe_lstS (by decide) pss_nil'))) (vl_appR (vl_ret (PN.pe .v (pn_tupS (by decide) (pss_cons' (PN.pe .v (pn_lit rfl)) pss_nil'))))) (vl_wk (.e (.e (.e (.e (.j (.j (.j (.j .nil)))))))) (t__law_fault_k2 v_heap v_value v_m s20))))
def N__law_fault : List Str := ["heap", "value", "m", "told", "wrong", "k", "one", "i"]
def B__law_fault : List CS := (.set 2 (.bi .len [(.loc 0)]) :: (.ite (.or (.not (.bi .istuple [(.loc 1)])) (.or (.cmp .ne (.bi .len [(.loc 1)]) (.lit (.int 2))) (.cmp .notin (.bi .repr [(.idx (.loc 1) (.lit (.int 0)))]) (.tup [(.lit (.str "'burns'")), (.lit (.str "'lot'"))])))) [.ret (.tup [(.lit (.str "form"))])] [] :: C__law_fault_k1))
def F__law_fault : Fn := runF 2 8 B__law_fault
def g__law_fault (a0 : D) (a1 : D) : Option D := ((some a0).bind fun x2 => biS .len [x2]).bind fun s1 => ((((some a1).bind (isOf .istuple)).map (!·)).bind fun b16 => if b16 then some true else (((some a1).bind fun x3 => biS .len [x3]).bind fun x4 => (some (PyData.int 2)).bind fun x5 => cmpD .ne x4 x5).bind fun b15 => if b15 then some true else (((some a1).bind fun x6 => (some (PyData.int 0)).bind fun x7 => idxD x6 x7).bind fun x8 => biS .repr [x8]).bind fun x13 => (((some (PyData.str "'burns'")).bind fun x11 => ((some (PyData.str "'lot'")).bind fun x9 => (some []).bind fun x10 => some (x9 :: x10)).bind fun x12 => some (x11 :: x12)).map PyData.tuple).bind fun x14 => cmpD .notin x13 x14).bind fun b17 => if b17 then (((some (PyData.str "form")).bind fun x18 => (some []).bind fun x19 => some (x18 :: x19)).map PyData.tuple) else (g__law_fault_k1 a0 a1 s1)
theorem vl__law_fault (a0 : D) (a1 : D) : VL B__law_fault [.v a0, .v a1, .j, .j, .j, .j, .j, .j] (g__law_fault a0 a1) R.v := by
  unfold B__law_fault g__law_fault
  exact (vl_nx (ns_eq (q := fun (s1 : D) => [.v a0, .v a1, .v s1, .j, .j, .j, .j, .j]) (ns_setU (PN.pe .v (pn_bi1 rfl (pe_v rfl))) (ltl rfl)) (fun _ => rfl)) fun s1 => (vl_ite (pb_or (pb_not (pb_is (pe_v rfl))) (pb_or (pb_cmp (PN.pe .v (pn_bi1 rfl (pe_v rfl))) (PN.pe .v (pn_lit rfl))) (pb_cmp (PN.pe .v (pn_bi1 rfl (pe_idx (pe_v rfl) (PN.pe .v (pn_lit rfl))))) (PN.pe .v (pn_tupS (by decide) (pss_cons' (PN.pe .v (pn_lit rfl)) (pss_cons' (PN.pe .v (pn_lit rfl)) pss_nil'))))))) (vl_appR (vl_ret (PN.pe .v (pn_tupS (by decide) (pss_cons' (PN.pe .v (pn_lit rfl)) pss_nil'))))) (vl_wk (.e (.e (.e (.j (.j (.j (.j (.j .nil)))))))) (t__law_fault_k1 a0 a1 s1))))
theorem ok__law_fault : ∀ a0 a1 d, g__law_fault a0 a1 = some d → ∀ ss, F__law_fault [.v a0, .v a1] ss = some ((R.v : D → R) d, ss) := fun a0 a1 d h ss => fv_ok (np := 2) (n := 6) (N := 8) (as := [a0, a1]) rfl rfl (vl__law_fault a0 a1) h ss
def gl__law_fault : List D → Option D
  | [a0, a1] => g__law_fault a0 a1
  | _ => none
theorem okl__law_fault : ∀ ds d, gl__law_fault ds = some d → ∀ ss, F__law_fault (ds.map .v) ss = some ((R.v : D → R) d, ss) := fun ds d h ss => by
  unfold gl__law_fault at h
  split at h
  · exact ok__law_fault _ _ d h ss
  · cases h
def N__law_mixed : List Str := ["source", "things", "rest", "lap"]
def B__law_mixed : List CS := [.set 2 (.bi .list [(.loc 1)]), .rmix 2 0 3 "_law_pick" F__law_pick]
def F__law_mixed : Fn := runF 2 4 B__law_mixed
theorem mixed_eq : F__law_mixed = F_mixed := rfl
def w__law_parking_e1 (M : Alg) (v_m : D) : Wt M (List D) := fun Q => lW M ((some v_m).bind rg1S) Q
theorem e__law_parking_e1 (M : Alg) (v_m : D) : WI M (.rg1 (.loc 1)) [.s, .v v_m, .j] (w__law_parking_e1 M v_m) := by
  unfold w__law_parking_e1
  exact (wi_p (pi_rgA (pe_v rfl)))
def w__law_parking_e2 (M : Alg) (v_m : D) (v_k : D) : Wt M (D) := fun Q => lW M ((some v_k).bind fun x16 => (some (PyData.int 1)).bind fun x17 => addS x16 x17) Q
theorem e__law_parking_e2 (M : Alg) (v_m : D) (v_k : D) : WE M canR (.bin .add (.loc 2) (.lit (.int 1))) [.s, .v v_m, .v v_k] (w__law_parking_e2 M v_m v_k) := by
  unfold w__law_parking_e2
  exact (we_p (pe_bin (pe_v rfl) (PN.pe .v (pn_lit rfl))))
def w__law_parking_e3 (M : Alg) (v_m : D) (v_k : D) : Wt M (D) := fun Q => (w__law_parking_e2 M v_m v_k) fun x11 => pickW M x11 Q
theorem e__law_parking_e3 (M : Alg) (v_m : D) (v_k : D) : WE M R.v (.call "_law_pick" F__law_pick [(.loc 0), (.bin .add (.loc 2) (.lit (.int 1)))]) [.s, .v v_m, .v v_k] (w__law_parking_e3 M v_m v_k) := by
  unfold w__law_parking_e3
  exact (we_pick pick_eq rfl (e__law_parking_e2 M v_m v_k))
def w__law_parking_e4 (M : Alg) (v_m : D) : Wt M (D) := fun Q => (w__law_parking_e1 M v_m) fun x7 => if x7.length ≤ SL then mapW M (fun (d10 : D) => (w__law_parking_e3 M v_m d10)) x7 [] Q else M.bad
theorem e__law_parking_e4 (M : Alg) (v_m : D) : WE M canR (.lc (.call "_law_pick" F__law_pick [(.loc 0), (.bin .add (.loc 2) (.lit (.int 1)))]) (.one 2) (.rg1 (.loc 1)) []) [.s, .v v_m, .j] (w__law_parking_e4 M v_m) := by
  unfold w__law_parking_e4
  exact (we_lc0 (f := (fun (d10 : D) => (w__law_parking_e3 M v_m d10))) (e__law_parking_e1 M v_m) fun d10 => we1_bt (qs := [.s, .v v_m, .v d10]) (bt_one (ltl rfl)) (e__law_parking_e3 M v_m d10))
def w__law_parking_e5 (M : Alg) (v_m : D) : Wt M (D) := fun Q => (w__law_parking_e4 M v_m) fun x4 => mixW M x4 Q
theorem e__law_parking_e5 (M : Alg) (v_m : D) : WE M canR (.call "_law_mixed" F__law_mixed [(.loc 0), (.lc (.call "_law_pick" F__law_pick [(.loc 0), (.bin .add (.loc 2) (.lit (.int 1)))]) (.one 2) (.rg1 (.loc 1)) [])]) [.s, .v v_m, .j] (w__law_parking_e5 M v_m) := by
  unfold w__law_parking_e5
  exact (we_mixed mixed_eq rfl (e__law_parking_e4 M v_m))
def w__law_parking_e6 (M : Alg) (v_m : D) : Wt M (D) := fun Q => (w__law_parking_e5 M v_m) fun x1 => lW M (biS .tuple [x1]) Q
theorem e__law_parking_e6 (M : Alg) (v_m : D) : WE M R.v (.bi .tuple [(.call "_law_mixed" F__law_mixed [(.loc 0), (.lc (.call "_law_pick" F__law_pick [(.loc 0), (.bin .add (.loc 2) (.lit (.int 1)))]) (.one 2) (.rg1 (.loc 1)) [])])]) [.s, .v v_m, .j] (w__law_parking_e6 M v_m) := by
  unfold w__law_parking_e6
  exact (we_bi1n rfl (e__law_parking_e5 M v_m))
def N__law_parking : List Str := ["source", "m", "k"]
def B__law_parking : List CS := [.ret (.bi .tuple [(.call "_law_mixed" F__law_mixed [(.loc 0), (.lc (.call "_law_pick" F__law_pick [(.loc 0), (.bin .add (.loc 2) (.lit (.int 1)))]) (.one 2) (.rg1 (.loc 1)) [])])])]
def F__law_parking : Fn := runF 2 3 B__law_parking
def w__law_parking (M : Alg) (a1 : D) : Wt M D := fun Q => (w__law_parking_e6 M a1) Q
theorem wv__law_parking (M : Alg) (a1 : D) : WV M B__law_parking [.s, .v a1, .j] (w__law_parking M a1) R.v := by
  unfold B__law_parking w__law_parking
  exact (wv_ret (e__law_parking_e6 M a1))
def wl__law_parking (M : Alg) : List D → Wt M D
  | [a1] => w__law_parking M a1
  | _ => fun _ => M.bad
theorem okw__law_parking (M : Alg) : ∀ ds Q, M.H (wl__law_parking M ds Q) → ∀ ss, SSok ss → ∃ d ss', F__law_parking (.src :: ds.map .v) ss = some ((R.v : D → R) d, ss') ∧ SSok ss' ∧ M.H (Q d) := fun ds Q h ss ok => by
  unfold wl__law_parking at h
  split at h
  · exact fw_ok (np := 1) (n := 1) (N := 3) rfl rfl (wv__law_parking M _) Q h ss ok
  · exact (M.hbad h).elim
def w_law_e1 (M : Alg)  : Wt M (List D) := fun Q => lW M ((some (PyData.int 4)).bind rg1S) Q
theorem e_law_e1 (M : Alg)  : WI M (.rg1 (.lit (.int 4))) [.j, .s, .j, .j, .j, .j, .j, .j, .j, .j, .j, .j, .j, .j, .j, .j, .j, .j] (w_law_e1 M ) := by
  unfold w_law_e1
  exact (wi_p (pi_rgA (PN.pe .v (pn_lit rfl))))
def w_law_e3 (M : Alg) (v_lap : D) : Wt M (D) := fun Q => lW M ((((some (PyData.int 3)).bind fun x26 => ((some (PyData.int 5)).bind fun x24 => ((some (PyData.int 8)).bind fun x22 => ((some (PyData.int 12)).bind fun x20 => (some []).bind fun x21 => some (x20 :: x21)).bind fun x23 => some (x22 :: x23)).bind fun x25 => some (x24 :: x25)).bind fun x27 => some (x26 :: x27)).map PyData.list).bind fun x28 => (some v_lap).bind fun x29 => idxD x28 x29) Q
theorem e_law_e3 (M : Alg) (v_lap : D) : WE M R.v (.idx (.lst [(.lit (.int 3)), (.lit (.int 5)), (.lit (.int 8)), (.lit (.int 12))]) (.loc 2)) [.j, .s, .v v_lap, .j, .j, .j, .j, .j, .j, .j, .j, .j, .j, .j, .j, .j, .j, .j] (w_law_e3 M v_lap) := by
  unfold w_law_e3
  exact (we_p (pe_idx (pe_lstS (by decide) (pss_cons' (PN.pe .v (pn_lit rfl)) (pss_cons' (PN.pe .v (pn_lit rfl)) (pss_cons' (PN.pe .v (pn_lit rfl)) (pss_cons' (PN.pe .v (pn_lit rfl)) pss_nil'))))) (pe_v rfl)))
def w_law_e4 (M : Alg) (v_lap : D) : Wt M (D) := fun Q => (w_law_e3 M v_lap) fun x7 => pickW M x7 Q
theorem e_law_e4 (M : Alg) (v_lap : D) : WE M R.v (.call "_law_pick" F__law_pick [(.loc 1), (.idx (.lst [(.lit (.int 3)), (.lit (.int 5)), (.lit (.int 8)), (.lit (.int 12))]) (.loc 2))]) [.j, .s, .v v_lap, .j, .j, .j, .j, .j, .j, .j, .j, .j, .j, .j, .j, .j, .j, .j] (w_law_e4 M v_lap) := by
  unfold w_law_e4
  exact (we_pick pick_eq rfl (e_law_e3 M v_lap))
def w_law_e5 (M : Alg) (v_lap : D) : Wt M (D) := fun Q => (w_law_e4 M v_lap) Q
theorem e_law_e5 (M : Alg) (v_lap : D) : MS M (.set 3 (.call "_law_pick" F__law_pick [(.loc 1), (.idx (.lst [(.lit (.int 3)), (.lit (.int 5)), (.lit (.int 8)), (.lit (.int 12))]) (.loc 2))])) [.j, .s, .v v_lap, .j, .j, .j, .j, .j, .j, .j, .j, .j, .j, .j, .j, .j, .j, .j] (w_law_e5 M v_lap) (fun (z30 : D) => [.j, .s, .v v_lap, .v z30, .j, .j, .j, .j, .j, .j, .j, .j, .j, .j, .j, .j, .j, .j]) := by
  unfold w_law_e5
  exact (ms_eq (q := fun (z30 : D) => [.j, .s, .v v_lap, .v z30, .j, .j, .j, .j, .j, .j, .j, .j, .j, .j, .j, .j, .j, .j]) (ms_set (e_law_e4 M v_lap) (ltl rfl)) (fun _ => rfl))
def w_law_e6 (M : Alg) (v_lap : D) (v_m : D) : Wt M (List D) := fun Q => lW M ((some v_m).bind rg1S) Q
theorem e_law_e6 (M : Alg) (v_lap : D) (v_m : D) : WI M (.rg1 (.loc 3)) [.j, .s, .v v_lap, .v v_m, .j, .j, .j, .j, .j, .j, .j, .j, .j, .j, .j, .j, .j, .j] (w_law_e6 M v_lap v_m) := by
  unfold w_law_e6
  exact (wi_p (pi_rgA (pe_v rfl)))
def w_law_e7 (M : Alg) (v_lap : D) (v_m : D) (v_k : D) : Wt M (D) := fun Q => lW M ((some (PyData.int 1)).bind fun x47 => (some v_m).bind fun x48 => biS .max2 [x47, x48]) Q
theorem e_law_e7 (M : Alg) (v_lap : D) (v_m : D) (v_k : D) : WE M R.v (.bi .max2 [(.lit (.int 1)), (.loc 3)]) [.j, .s, .v v_lap, .v v_m, .j, .j, .j, .j, .j, .j, .j, .j, .j, .v v_k, .j, .j, .j, .j] (w_law_e7 M v_lap v_m v_k) := by
  unfold w_law_e7
  exact (we_p (PN.pe R.v (pn_bi2 rfl (PN.pe .v (pn_lit rfl)) (pe_v rfl))))
def w_law_e8 (M : Alg) (v_lap : D) (v_m : D) (v_k : D) : Wt M (D) := fun Q => (w_law_e7 M v_lap v_m v_k) fun x42 => pickW M x42 Q
theorem e_law_e8 (M : Alg) (v_lap : D) (v_m : D) (v_k : D) : WE M R.v (.call "_law_pick" F__law_pick [(.loc 1), (.bi .max2 [(.lit (.int 1)), (.loc 3)])]) [.j, .s, .v v_lap, .v v_m, .j, .j, .j, .j, .j, .j, .j, .j, .j, .v v_k, .j, .j, .j, .j] (w_law_e8 M v_lap v_m v_k) := by
  unfold w_law_e8
  exact (we_pick pick_eq rfl (e_law_e7 M v_lap v_m v_k))
def w_law_e9 (M : Alg) (v_lap : D) (v_m : D) : Wt M (D) := fun Q => (w_law_e6 M v_lap v_m) fun x38 => if x38.length ≤ SL then mapW M (fun (d41 : D) => (w_law_e8 M v_lap v_m d41)) x38 [] Q else M.bad
theorem e_law_e9 (M : Alg) (v_lap : D) (v_m : D) : WE M canR (.lc (.call "_law_pick" F__law_pick [(.loc 1), (.bi .max2 [(.lit (.int 1)), (.loc 3)])]) (.one 13) (.rg1 (.loc 3)) []) [.j, .s, .v v_lap, .v v_m, .j, .j, .j, .j, .j, .j, .j, .j, .j, .j, .j, .j, .j, .j] (w_law_e9 M v_lap v_m) := by
  unfold w_law_e9
  exact (we_lc0 (f := (fun (d41 : D) => (w_law_e8 M v_lap v_m d41))) (e_law_e6 M v_lap v_m) fun d41 => we1_bt (qs := [.j, .s, .v v_lap, .v v_m, .j, .j, .j, .j, .j, .j, .j, .j, .j, .v d41, .j, .j, .j, .j]) (bt_one (ltl rfl)) (e_law_e8 M v_lap v_m d41))
def w_law_e10 (M : Alg) (v_lap : D) (v_m : D) : Wt M (D) := fun Q => (w_law_e9 M v_lap v_m) fun x35 => lW M (biS .tuple [x35]) Q
theorem e_law_e10 (M : Alg) (v_lap : D) (v_m : D) : WE M R.v (.bi .tuple [(.lc (.call "_law_pick" F__law_pick [(.loc 1), (.bi .max2 [(.lit (.int 1)), (.loc 3)])]) (.one 13) (.rg1 (.loc 3)) [])]) [.j, .s, .v v_lap, .v v_m, .j, .j, .j, .j, .j, .j, .j, .j, .j, .j, .j, .j, .j, .j] (w_law_e10 M v_lap v_m) := by
  unfold w_law_e10
  exact (we_bi1n rfl (e_law_e9 M v_lap v_m))
def w_law_e11 (M : Alg) (v_lap : D) (v_m : D) : Wt M (D) := fun Q => (w_law_e10 M v_lap v_m) Q
theorem e_law_e11 (M : Alg) (v_lap : D) (v_m : D) : MS M (.set 4 (.bi .tuple [(.lc (.call "_law_pick" F__law_pick [(.loc 1), (.bi .max2 [(.lit (.int 1)), (.loc 3)])]) (.one 13) (.rg1 (.loc 3)) [])])) [.j, .s, .v v_lap, .v v_m, .j, .j, .j, .j, .j, .j, .j, .j, .j, .j, .j, .j, .j, .j] (w_law_e11 M v_lap v_m) (fun (z49 : D) => [.j, .s, .v v_lap, .v v_m, .v z49, .j, .j, .j, .j, .j, .j, .j, .j, .j, .j, .j, .j, .j]) := by
  unfold w_law_e11
  exact (ms_eq (q := fun (z49 : D) => [.j, .s, .v v_lap, .v v_m, .v z49, .j, .j, .j, .j, .j, .j, .j, .j, .j, .j, .j, .j, .j]) (ms_set (e_law_e10 M v_lap v_m) (ltl rfl)) (fun _ => rfl))
def w_law_e12 (M : Alg) (v_m : D) (v_heap : D) : Wt M (D) := fun Q => lW M (some (PyData.int 2)) Q
theorem e_law_e12 (M : Alg) (v_m : D) (v_heap : D) : WE M R.v (.lit (.int 2)) [.j, .s, .j, .v v_m, .v v_heap, .j, .j, .j, .j, .j, .j, .j, .j, .j, .j, .j, .j, .j] (w_law_e12 M v_m v_heap) := by
  unfold w_law_e12
  exact (we_p (PN.pe R.v (pn_lit rfl)))
def w_law_e13 (M : Alg) (v_m : D) (v_heap : D) : Wt M (D) := fun Q => (w_law_e12 M v_m v_heap) fun x80 => pickW M x80 Q
theorem e_law_e13 (M : Alg) (v_m : D) (v_heap : D) : WE M R.v (.call "_law_pick" F__law_pick [(.loc 1), (.lit (.int 2))]) [.j, .s, .j, .v v_m, .v v_heap, .j, .j, .j, .j, .j, .j, .j, .j, .j, .j, .j, .j, .j] (w_law_e13 M v_m v_heap) := by
  unfold w_law_e13
  exact (we_pick pick_eq rfl (e_law_e12 M v_m v_heap))
def w_law_e14 (M : Alg) (v_m : D) (v_heap : D) : Wt M (D) := fun Q => lW M (some (PyData.int 0)) Q
theorem e_law_e14 (M : Alg) (v_m : D) (v_heap : D) : WE M R.v (.lit (.int 0)) [.j, .s, .j, .v v_m, .v v_heap, .j, .j, .j, .j, .j, .j, .j, .j, .j, .j, .j, .j, .j] (w_law_e14 M v_m v_heap) := by
  unfold w_law_e14
  exact (we_p (PN.pe R.v (pn_lit rfl)))
def w_law_e15 (M : Alg) (v_m : D) (v_heap : D) : Wt M (Bool) := fun Q => (w_law_e13 M v_m v_heap) fun x77 => (w_law_e14 M v_m v_heap) fun x78 => lW M (cmpD .eq x77 x78) Q
theorem e_law_e15 (M : Alg) (v_m : D) (v_heap : D) : WB M (.cmp .eq (.call "_law_pick" F__law_pick [(.loc 1), (.lit (.int 2))]) (.lit (.int 0))) [.j, .s, .j, .v v_m, .v v_heap, .j, .j, .j, .j, .j, .j, .j, .j, .j, .j, .j, .j, .j] (w_law_e15 M v_m v_heap) := by
  unfold w_law_e15
  exact (wb_cmp (e_law_e13 M v_m v_heap) (e_law_e14 M v_m v_heap))
def w_law_e17 (M : Alg) (v_m : D) (v_heap : D) : Wt M (D) := fun Q => lW M (some v_m) Q
theorem e_law_e17 (M : Alg) (v_m : D) (v_heap : D) : WE M R.v (.loc 3) [.j, .s, .j, .v v_m, .v v_heap, .j, .j, .j, .j, .j, .j, .j, .j, .j, .j, .j, .j, .j] (w_law_e17 M v_m v_heap) := by
  unfold w_law_e17
  exact (we_p (pe_v rfl))
def w_law_e18 (M : Alg) (v_m : D) (v_heap : D) : Wt M (List D) := fun Q => Q []
theorem e_law_e18 (M : Alg) (v_m : D) (v_heap : D) : WA M [] [.j, .s, .j, .v v_m, .v v_heap, .j, .j, .j, .j, .j, .j, .j, .j, .j, .j, .j, .j, .j] (w_law_e18 M v_m v_heap) := by
  unfold w_law_e18
  exact wa_nil
def w_law_e19 (M : Alg) (v_m : D) (v_heap : D) : Wt M (List D) := fun Q => (w_law_e17 M v_m v_heap) fun x97 => (w_law_e18 M v_m v_heap) fun x98 => Q (x97 :: x98)
theorem e_law_e19 (M : Alg) (v_m : D) (v_heap : D) : WA M ((.loc 3) :: []) [.j, .s, .j, .v v_m, .v v_heap, .j, .j, .j, .j, .j, .j, .j, .j, .j, .j, .j, .j, .j] (w_law_e19 M v_m v_heap) := by
  unfold w_law_e19
  exact (wa_cons (e_law_e17 M v_m v_heap) (e_law_e18 M v_m v_heap))
def w_law_e20 (M : Alg) (v_m : D) (v_heap : D) : Wt M (D) := fun Q => (w_law_e19 M v_m v_heap) fun x94 => wl__law_parking M x94 Q
theorem e_law_e20 (M : Alg) (v_m : D) (v_heap : D) : WE M R.v (.call "_law_parking" F__law_parking ((.loc 1) :: ((.loc 3) :: []))) [.j, .s, .j, .v v_m, .v v_heap, .j, .j, .j, .j, .j, .j, .j, .j, .j, .j, .j, .j, .j] (w_law_e20 M v_m v_heap) := by
  unfold w_law_e20
  exact (we_scall (okw__law_parking M) rfl (e_law_e19 M v_m v_heap))
def w_law_e21 (M : Alg) (v_m : D) (v_heap : D) : Wt M (List D) := fun Q => (w_law_e20 M v_m v_heap) fun x99 => lW M (seqOf x99) Q
theorem e_law_e21 (M : Alg) (v_m : D) (v_heap : D) : WI M (.call "_law_parking" F__law_parking ((.loc 1) :: ((.loc 3) :: []))) [.j, .s, .j, .v v_m, .v v_heap, .j, .j, .j, .j, .j, .j, .j, .j, .j, .j, .j, .j, .j] (w_law_e21 M v_m v_heap) := by
  unfold w_law_e21
  exact (wi_of (e_law_e20 M v_m v_heap))
def w_law_e22 (M : Alg) (v_m : D) (v_heap : D) (v_one : D) : Wt M (D) := fun Q => lW M (((some v_m).bind fun x105 => (some (PyData.int 1)).bind fun x106 => subS x105 x106).bind fun x107 => (some v_one).bind fun x108 => subS x107 x108) Q
theorem e_law_e22 (M : Alg) (v_m : D) (v_heap : D) (v_one : D) : WE M R.v (.bin .sub (.bin .sub (.loc 3) (.lit (.int 1))) (.loc 17)) [.j, .s, .j, .v v_m, .v v_heap, .j, .j, .j, .j, .j, .j, .j, .j, .j, .j, .j, .j, .v v_one] (w_law_e22 M v_m v_heap v_one) := by
  unfold w_law_e22
  exact (we_p (PN.pe R.v (pn_bin rfl (PN.pe .v (pn_bin rfl (pe_v rfl) (PN.pe .v (pn_lit rfl)))) (pe_v rfl))))
def w_law_e23 (M : Alg) (v_m : D) (v_heap : D) : Wt M (D) := fun Q => (w_law_e21 M v_m v_heap) fun x91 => if x91.length ≤ SL then mapW M (fun (d100 : D) => (w_law_e22 M v_m v_heap d100)) x91 [] Q else M.bad
theorem e_law_e23 (M : Alg) (v_m : D) (v_heap : D) : WE M canR (.lc (.bin .sub (.bin .sub (.loc 3) (.lit (.int 1))) (.loc 17)) (.one 17) (.call "_law_parking" F__law_parking ((.loc 1) :: ((.loc 3) :: []))) []) [.j, .s, .j, .v v_m, .v v_heap, .j, .j, .j, .j, .j, .j, .j, .j, .j, .j, .j, .j, .j] (w_law_e23 M v_m v_heap) := by
  unfold w_law_e23
  exact (we_lc0 (f := (fun (d100 : D) => (w_law_e22 M v_m v_heap d100))) (e_law_e21 M v_m v_heap) fun d100 => we1_bt (qs := [.j, .s, .j, .v v_m, .v v_heap, .j, .j, .j, .j, .j, .j, .j, .j, .j, .j, .j, .j, .v d100]) (bt_one (ltl rfl)) (e_law_e22 M v_m v_heap d100))
def w_law_e24 (M : Alg) (v_m : D) (v_heap : D) : Wt M (D) := fun Q => (w_law_e23 M v_m v_heap) fun x88 => lW M (biS .tuple [x88]) Q
theorem e_law_e24 (M : Alg) (v_m : D) (v_heap : D) : WE M R.v (.bi .tuple [(.lc (.bin .sub (.bin .sub (.loc 3) (.lit (.int 1))) (.loc 17)) (.one 17) (.call "_law_parking" F__law_parking ((.loc 1) :: ((.loc 3) :: []))) [])]) [.j, .s, .j, .v v_m, .v v_heap, .j, .j, .j, .j, .j, .j, .j, .j, .j, .j, .j, .j, .j] (w_law_e24 M v_m v_heap) := by
  unfold w_law_e24
  exact (we_bi1n rfl (e_law_e23 M v_m v_heap))
def w_law_e25 (M : Alg) (v_m : D) (v_heap : D) : Wt M (D) := fun Q => (w_law_e24 M v_m v_heap) Q
theorem e_law_e25 (M : Alg) (v_m : D) (v_heap : D) : MS M (.set 4 (.bi .tuple [(.lc (.bin .sub (.bin .sub (.loc 3) (.lit (.int 1))) (.loc 17)) (.one 17) (.call "_law_parking" F__law_parking ((.loc 1) :: ((.loc 3) :: []))) [])])) [.j, .s, .j, .v v_m, .v v_heap, .j, .j, .j, .j, .j, .j, .j, .j, .j, .j, .j, .j, .j] (w_law_e25 M v_m v_heap) (fun (z109 : D) => [.j, .s, .j, .v v_m, .v z109, .j, .j, .j, .j, .j, .j, .j, .j, .j, .j, .j, .j, .j]) := by
  unfold w_law_e25
  exact (ms_eq (q := fun (z109 : D) => [.j, .s, .j, .v v_m, .v z109, .j, .j, .j, .j, .j, .j, .j, .j, .j, .j, .j, .j, .j]) (ms_set (e_law_e24 M v_m v_heap) (ltl rfl)) (fun _ => rfl))
def C_law_b16 : List CS := (.set 4 (.bi .tuple [(.lc (.bin .sub (.bin .sub (.loc 3) (.lit (.int 1))) (.loc 17)) (.one 17) (.call "_law_parking" F__law_parking ((.loc 1) :: ((.loc 3) :: []))) [])]) :: [])
def g_law_b16 (M : Alg) (v_m : D) (v_heap : D) : Wt M (Fl (D)) := fun Q => (w_law_e25 M v_m v_heap) fun s84 => Q (Fl.nx s84)
theorem t_law_b16 (M : Alg) (v_m : D) (v_heap : D) : WL M C_law_b16 [.j, .s, .j, .v v_m, .v v_heap, .j, .j, .j, .j, .j, .j, .j, .j, .j, .j, .j, .j, .j] (g_law_b16 M v_m v_heap) (fun (z110 : D) => [.j, .s, .j, .v v_m, .v z110, .j, .j, .j, .j, .j, .j, .j, .j, .j, .j, .j, .j, .j]) R.v := by
  unfold C_law_b16 g_law_b16
  exact (wl_m (e_law_e25 M v_m v_heap) fun s84 => (wl_nil (.j (.e (.j (.e (.e (.j (.j (.j (.j (.j (.j (.j (.j (.j (.j (.j (.j (.j .nil))))))))))))))))))))
def C_law_b26 : List CS := []
def g_law_b26 (M : Alg) (v_m : D) (v_heap : D) : Wt M (Fl (D)) := fun Q => Q (Fl.nx v_heap)
theorem t_law_b26 (M : Alg) (v_m : D) (v_heap : D) : WL M C_law_b26 [.j, .s, .j, .v v_m, .v v_heap, .j, .j, .j, .j, .j, .j, .j, .j, .j, .j, .j, .j, .j] (g_law_b26 M v_m v_heap) (fun (z111 : D) => [.j, .s, .j, .v v_m, .v z111, .j, .j, .j, .j, .j, .j, .j, .j, .j, .j, .j, .j, .j]) R.v := by
  unfold C_law_b26 g_law_b26
  exact (wl_nil (.j (.e (.j (.e (.e (.j (.j (.j (.j (.j (.j (.j (.j (.j (.j (.j (.j (.j .nil)))))))))))))))))))
def w_law_e27 (M : Alg) (v_m : D) (v_heap : D) : Wt M (Fl (D)) := fun Q => (w_law_e15 M v_m v_heap) fun b50 => if b50 then g_law_b16 M v_m v_heap Q else g_law_b26 M v_m v_heap Q
theorem e_law_e27 (M : Alg) (v_m : D) (v_heap : D) : WS M (.ite (.cmp .eq (.call "_law_pick" F__law_pick [(.loc 1), (.lit (.int 2))]) (.lit (.int 0))) C_law_b16 C_law_b26) [.j, .s, .j, .v v_m, .v v_heap, .j, .j, .j, .j, .j, .j, .j, .j, .j, .j, .j, .j, .j] (w_law_e27 M v_m v_heap) (fun (z112 : D) => [.j, .s, .j, .v v_m, .v z112, .j, .j, .j, .j, .j, .j, .j, .j, .j, .j, .j, .j, .j]) R.v := by
  unfold w_law_e27
  exact (ws_ite (e_law_e15 M v_m v_heap) (t_law_b16 M v_m v_heap) (t_law_b26 M v_m v_heap))
def w_law_e29 (M : Alg) (v_m : D) (v_heap : D) (v_kept : D) (v_told : D) (v_burnt : D) : Wt M (Bool) := fun Q => lW M (((((((some v_told).bind fun x135 => (some (PyData.int 0)).bind fun x136 => idxD x135 x136).bind fun x137 => (some (PyData.str "burns")).bind fun x138 => cmpD .eq x137 x138).map PyData.bool)).bind fun x142 => (((((some v_burnt).bind fun x139 => biS .len [x139]).bind fun x140 => (some v_m).bind fun x141 => cmpD .eq x140 x141).map PyData.bool)).bind fun x143 => cmpD .ne x142 x143).bind fun b148 => if b148 then some true else ((some v_heap).bind fun x144 => (some v_told).bind fun x145 => g__law_fault x144 x145).bind fun x146 => (some (PyData.none)).bind fun x147 => cmpD .notn x146 x147) Q
theorem e_law_e29 (M : Alg) (v_m : D) (v_heap : D) (v_kept : D) (v_told : D) (v_burnt : D) : WB M (.or (.cmp .ne (.cmp .eq (.idx (.loc 11) (.lit (.int 0))) (.lit (.str "burns"))) (.cmp .eq (.bi .len [(.loc 12)]) (.loc 3))) (.cmp .notn (.call "_law_fault" F__law_fault [(.loc 4), (.loc 11)]) (.lit .none))) [.j, .s, .j, .v v_m, .v v_heap, .j, .j, .j, .j, .j, .v v_kept, .v v_told, .v v_burnt, .j, .j, .j, .j, .j] (w_law_e29 M v_m v_heap v_kept v_told v_burnt) := by
  unfold w_law_e29
  exact (wb_p (pb_or (pb_cmp (PN.pe .v (PB.pn (pb_cmp (pe_idx (pe_v rfl) (PN.pe .v (pn_lit rfl))) (PN.pe .v (pn_lit rfl))))) (PN.pe .v (PB.pn (pb_cmp (PN.pe .v (pn_bi1 rfl (pe_v rfl))) (pe_v rfl))))) (pb_cmp (pe_call2 ok__law_fault (pe_v rfl) (pe_v rfl)) (PN.pe .v (pn_lit rfl)))))
def w_law_e31 (M : Alg)  : Wt M (D) := fun Q => lW M (((some false).map PyData.bool)) Q
theorem e_law_e31 (M : Alg)  : WE M R.v (.lit (.bool false)) [.j, .s, .j, .j, .j, .j, .j, .j, .j, .j, .j, .j, .j, .j, .j, .j, .j, .j] (w_law_e31 M ) := by
  unfold w_law_e31
  exact (we_p (PN.pe R.v (PB.pn (pb_litb _))))
def C_law_r30 : List CS := [.ret (.lit (.bool false))]
def g_law_r30 (M : Alg)  : Wt M D := fun Q => (w_law_e31 M) Q
theorem t_law_r30 (M : Alg)  : WV M C_law_r30 [.j, .s, .j, .j, .j, .j, .j, .j, .j, .j, .j, .j, .j, .j, .j, .j, .j, .j] (g_law_r30 M ) R.v := by
  unfold C_law_r30 g_law_r30
  exact (wv_ret (e_law_e31 M))
def w_law_e33 (M : Alg) (v_m : D) (v_heap : D) (v_kept : D) (v_told : D) (v_burnt : D) (v_rest : D) : Wt M (D) := fun Q => lW M (((some (PyData.none)).bind fun x211 => ((((some true).map PyData.bool)).bind fun x209 => (((some (PyData.int 1)).bind negS).bind fun x207 => ((some v_m).bind fun x205 => ((some (PyData.str "0")).bind fun x203 => ((((some (PyData.int 0)).bind fun x201 => (some []).bind fun x202 => some (x201 :: x202)).map PyData.tuple).bind fun x199 => ((((some (PyData.int 0)).bind fun x197 => (some []).bind fun x198 => some (x197 :: x198)).map PyData.list).bind fun x195 => ((some (PyData.int 0)).bind fun x193 => (((some (PyData.int 10)).bind fun x191 => (some (PyData.int 9)).bind fun x192 => powS x191 x192).bind fun x189 => (some []).bind fun x190 => some (x189 :: x190)).bind fun x194 => some (x193 :: x194)).bind fun x196 => some (x195 :: x196)).bind fun x200 => some (x199 :: x200)).bind fun x204 => some (x203 :: x204)).bind fun x206 => some (x205 :: x206)).bind fun x208 => some (x207 :: x208)).bind fun x210 => some (x209 :: x210)).bind fun x212 => some (x211 :: x212)).map PyData.list) Q
theorem e_law_e33 (M : Alg) (v_m : D) (v_heap : D) (v_kept : D) (v_told : D) (v_burnt : D) (v_rest : D) : WE M canR (.lst [(.lit .none), (.lit (.bool true)), (.neg (.lit (.int 1))), (.loc 3), (.lit (.str "0")), (.tup [(.lit (.int 0))]), (.lst [(.lit (.int 0))]), (.lit (.int 0)), (.bin .pow (.lit (.int 10)) (.lit (.int 9)))]) [.j, .s, .j, .v v_m, .v v_heap, .v v_rest, .j, .j, .j, .j, .v v_kept, .v v_told, .v v_burnt, .j, .j, .j, .j, .j] (w_law_e33 M v_m v_heap v_kept v_told v_burnt v_rest) := by
  unfold w_law_e33
  exact (we_p (pe_lstS (by decide) (pss_cons' (PN.pe .v (pn_lit rfl)) (pss_cons' (PN.pe .v (PB.pn (pb_litb _))) (pss_cons' (PN.pe .v (pn_neg (PN.pe .v (pn_lit rfl)))) (pss_cons' (pe_v rfl) (pss_cons' (PN.pe .v (pn_lit rfl)) (pss_cons' (PN.pe .v (pn_tupS (by decide) (pss_cons' (PN.pe .v (pn_lit rfl)) pss_nil'))) (pss_cons' (pe_lstS (by decide) (pss_cons' (PN.pe .v (pn_lit rfl)) pss_nil')) (pss_cons' (PN.pe .v (pn_lit rfl)) (pss_cons' (PN.pe .v (pn_bin rfl (PN.pe .v (pn_lit rfl)) (PN.pe .v (pn_lit rfl)))) pss_nil')))))))))))
def w_law_e34 (M : Alg) (v_m : D) (v_heap : D) (v_kept : D) (v_told : D) (v_burnt : D) (v_rest : D) : Wt M (List D) := fun Q => Q []
theorem e_law_e34 (M : Alg) (v_m : D) (v_heap : D) (v_kept : D) (v_told : D) (v_burnt : D) (v_rest : D) : WA M [] [.j, .s, .j, .v v_m, .v v_heap, .v v_rest, .j, .j, .j, .j, .v v_kept, .v v_told, .v v_burnt, .j, .j, .j, .j, .j] (w_law_e34 M v_m v_heap v_kept v_told v_burnt v_rest) := by
  unfold w_law_e34
  exact wa_nil
def w_law_e35 (M : Alg) (v_m : D) (v_heap : D) (v_kept : D) (v_told : D) (v_burnt : D) (v_rest : D) : Wt M (List D) := fun Q => (w_law_e33 M v_m v_heap v_kept v_told v_burnt v_rest) fun x163 => (w_law_e34 M v_m v_heap v_kept v_told v_burnt v_rest) fun x164 => Q (x163 :: x164)
theorem e_law_e35 (M : Alg) (v_m : D) (v_heap : D) (v_kept : D) (v_told : D) (v_burnt : D) (v_rest : D) : WA M ((.lst [(.lit .none), (.lit (.bool true)), (.neg (.lit (.int 1))), (.loc 3), (.lit (.str "0")), (.tup [(.lit (.int 0))]), (.lst [(.lit (.int 0))]), (.lit (.int 0)), (.bin .pow (.lit (.int 10)) (.lit (.int 9)))]) :: []) [.j, .s, .j, .v v_m, .v v_heap, .v v_rest, .j, .j, .j, .j, .v v_kept, .v v_told, .v v_burnt, .j, .j, .j, .j, .j] (w_law_e35 M v_m v_heap v_kept v_told v_burnt v_rest) := by
  unfold w_law_e35
  exact (wa_cons (e_law_e33 M v_m v_heap v_kept v_told v_burnt v_rest) (e_law_e34 M v_m v_heap v_kept v_told v_burnt v_rest))
def w_law_e36 (M : Alg) (v_m : D) (v_heap : D) (v_kept : D) (v_told : D) (v_burnt : D) (v_rest : D) : Wt M (D) := fun Q => (w_law_e35 M v_m v_heap v_kept v_told v_burnt v_rest) fun x160 => wl__law_of M x160 Q
theorem e_law_e36 (M : Alg) (v_m : D) (v_heap : D) (v_kept : D) (v_told : D) (v_burnt : D) (v_rest : D) : WE M R.v (.call "_law_of" F__law_of ((.loc 1) :: ((.lst [(.lit .none), (.lit (.bool true)), (.neg (.lit (.int 1))), (.loc 3), (.lit (.str "0")), (.tup [(.lit (.int 0))]), (.lst [(.lit (.int 0))]), (.lit (.int 0)), (.bin .pow (.lit (.int 10)) (.lit (.int 9)))]) :: []))) [.j, .s, .j, .v v_m, .v v_heap, .v v_rest, .j, .j, .j, .j, .v v_kept, .v v_told, .v v_burnt, .j, .j, .j, .j, .j] (w_law_e36 M v_m v_heap v_kept v_told v_burnt v_rest) := by
  unfold w_law_e36
  exact (we_scall (okw__law_of M) rfl (e_law_e35 M v_m v_heap v_kept v_told v_burnt v_rest))
def w_law_e37 (M : Alg) (v_m : D) (v_heap : D) (v_kept : D) (v_told : D) (v_burnt : D) (v_rest : D) : Wt M (D) := fun Q => (w_law_e36 M v_m v_heap v_kept v_told v_burnt v_rest) Q
theorem e_law_e37 (M : Alg) (v_m : D) (v_heap : D) (v_kept : D) (v_told : D) (v_burnt : D) (v_rest : D) : MS M (.set 6 (.call "_law_of" F__law_of ((.loc 1) :: ((.lst [(.lit .none), (.lit (.bool true)), (.neg (.lit (.int 1))), (.loc 3), (.lit (.str "0")), (.tup [(.lit (.int 0))]), (.lst [(.lit (.int 0))]), (.lit (.int 0)), (.bin .pow (.lit (.int 10)) (.lit (.int 9)))]) :: [])))) [.j, .s, .j, .v v_m, .v v_heap, .v v_rest, .j, .j, .j, .j, .v v_kept, .v v_told, .v v_burnt, .j, .j, .j, .j, .j] (w_law_e37 M v_m v_heap v_kept v_told v_burnt v_rest) (fun (z213 : D) => [.j, .s, .j, .v v_m, .v v_heap, .v v_rest, .v z213, .j, .j, .j, .v v_kept, .v v_told, .v v_burnt, .j, .j, .j, .j, .j]) := by
  unfold w_law_e37
  exact (ms_eq (q := fun (z213 : D) => [.j, .s, .j, .v v_m, .v v_heap, .v v_rest, .v z213, .j, .j, .j, .v v_kept, .v v_told, .v v_burnt, .j, .j, .j, .j, .j]) (ms_set (e_law_e36 M v_m v_heap v_kept v_told v_burnt v_rest) (ltl rfl)) (fun _ => rfl))
def w_law_e38 (M : Alg) (v_m : D) (v_heap : D) (v_kept : D) (v_told : D) (v_burnt : D) (v_rest : D) (v_odd : D) : Wt M (D) := fun Q => lW M ((some v_m).bind fun x223 => (some (PyData.int 1)).bind fun x224 => addS x223 x224) Q
theorem e_law_e38 (M : Alg) (v_m : D) (v_heap : D) (v_kept : D) (v_told : D) (v_burnt : D) (v_rest : D) (v_odd : D) : WE M canR (.bin .add (.loc 3) (.lit (.int 1))) [.j, .s, .j, .v v_m, .v v_heap, .v v_rest, .v v_odd, .j, .j, .j, .v v_kept, .v v_told, .v v_burnt, .j, .j, .j, .j, .j] (w_law_e38 M v_m v_heap v_kept v_told v_burnt v_rest v_odd) := by
  unfold w_law_e38
  exact (we_p (pe_bin (pe_v rfl) (PN.pe .v (pn_lit rfl))))
def w_law_e39 (M : Alg) (v_m : D) (v_heap : D) (v_kept : D) (v_told : D) (v_burnt : D) (v_rest : D) (v_odd : D) : Wt M (D) := fun Q => (w_law_e38 M v_m v_heap v_kept v_told v_burnt v_rest v_odd) fun x218 => pickW M x218 Q
theorem e_law_e39 (M : Alg) (v_m : D) (v_heap : D) (v_kept : D) (v_told : D) (v_burnt : D) (v_rest : D) (v_odd : D) : WE M R.v (.call "_law_pick" F__law_pick [(.loc 1), (.bin .add (.loc 3) (.lit (.int 1)))]) [.j, .s, .j, .v v_m, .v v_heap, .v v_rest, .v v_odd, .j, .j, .j, .v v_kept, .v v_told, .v v_burnt, .j, .j, .j, .j, .j] (w_law_e39 M v_m v_heap v_kept v_told v_burnt v_rest v_odd) := by
  unfold w_law_e39
  exact (we_pick pick_eq rfl (e_law_e38 M v_m v_heap v_kept v_told v_burnt v_rest v_odd))
def w_law_e40 (M : Alg) (v_m : D) (v_heap : D) (v_kept : D) (v_told : D) (v_burnt : D) (v_rest : D) (v_odd : D) : Wt M (D) := fun Q => lW M (((((some v_m).bind rg1S).bind fun x233 => (some []).bind fun x234 => some (x233 ++ x234)).bind shortS).map PyData.list) Q
theorem e_law_e40 (M : Alg) (v_m : D) (v_heap : D) (v_kept : D) (v_told : D) (v_burnt : D) (v_rest : D) (v_odd : D) : WE M canR (.lst [.star (.rg1 (.loc 3))]) [.j, .s, .j, .v v_m, .v v_heap, .v v_rest, .v v_odd, .j, .j, .j, .v v_kept, .v v_told, .v v_burnt, .j, .j, .j, .j, .j] (w_law_e40 M v_m v_heap v_kept v_told v_burnt v_rest v_odd) := by
  unfold w_law_e40
  exact (we_p (pe_lst (px_star (pi_rgA (pe_v rfl)) px_nil)))
def w_law_e41 (M : Alg) (v_m : D) (v_heap : D) (v_kept : D) (v_told : D) (v_burnt : D) (v_rest : D) (v_odd : D) : Wt M (D) := fun Q => (w_law_e40 M v_m v_heap v_kept v_told v_burnt v_rest v_odd) fun x228 => mixW M x228 Q
theorem e_law_e41 (M : Alg) (v_m : D) (v_heap : D) (v_kept : D) (v_told : D) (v_burnt : D) (v_rest : D) (v_odd : D) : WE M canR (.call "_law_mixed" F__law_mixed [(.loc 1), (.lst [.star (.rg1 (.loc 3))])]) [.j, .s, .j, .v v_m, .v v_heap, .v v_rest, .v v_odd, .j, .j, .j, .v v_kept, .v v_told, .v v_burnt, .j, .j, .j, .j, .j] (w_law_e41 M v_m v_heap v_kept v_told v_burnt v_rest v_odd) := by
  unfold w_law_e41
  exact (we_mixed mixed_eq rfl (e_law_e40 M v_m v_heap v_kept v_told v_burnt v_rest v_odd))
def w_law_e42 (M : Alg) (v_m : D) (v_heap : D) (v_kept : D) (v_told : D) (v_burnt : D) (v_rest : D) (v_odd : D) : Wt M (D) := fun Q => (w_law_e41 M v_m v_heap v_kept v_told v_burnt v_rest v_odd) fun x225 => lW M (biS .tuple [x225]) Q
theorem e_law_e42 (M : Alg) (v_m : D) (v_heap : D) (v_kept : D) (v_told : D) (v_burnt : D) (v_rest : D) (v_odd : D) : WE M R.v (.bi .tuple [(.call "_law_mixed" F__law_mixed [(.loc 1), (.lst [.star (.rg1 (.loc 3))])])]) [.j, .s, .j, .v v_m, .v v_heap, .v v_rest, .v v_odd, .j, .j, .j, .v v_kept, .v v_told, .v v_burnt, .j, .j, .j, .j, .j] (w_law_e42 M v_m v_heap v_kept v_told v_burnt v_rest v_odd) := by
  unfold w_law_e42
  exact (we_bi1n rfl (e_law_e41 M v_m v_heap v_kept v_told v_burnt v_rest v_odd))
def w_law_e43 (M : Alg) (v_m : D) (v_heap : D) (v_kept : D) (v_told : D) (v_burnt : D) (v_rest : D) (v_odd : D) : Wt M (D × D) := fun Q => (w_law_e39 M v_m v_heap v_kept v_told v_burnt v_rest v_odd) fun x235 => (w_law_e42 M v_m v_heap v_kept v_told v_burnt v_rest v_odd) fun x236 => Q (x235, x236)
theorem e_law_e43 (M : Alg) (v_m : D) (v_heap : D) (v_kept : D) (v_told : D) (v_burnt : D) (v_rest : D) (v_odd : D) : MS M (.par [13, 14] [(.call "_law_pick" F__law_pick [(.loc 1), (.bin .add (.loc 3) (.lit (.int 1)))]), (.bi .tuple [(.call "_law_mixed" F__law_mixed [(.loc 1), (.lst [.star (.rg1 (.loc 3))])])])]) [.j, .s, .j, .v v_m, .v v_heap, .v v_rest, .v v_odd, .j, .j, .j, .v v_kept, .v v_told, .v v_burnt, .j, .j, .j, .j, .j] (w_law_e43 M v_m v_heap v_kept v_told v_burnt v_rest v_odd) (fun (z237 : D × D) => [.j, .s, .j, .v v_m, .v v_heap, .v v_rest, .v v_odd, .j, .j, .j, .v v_kept, .v v_told, .v v_burnt, .v (z237.1), .v (z237.2), .j, .j, .j]) := by
  unfold w_law_e43
  exact (ms_eq (q := fun (z237 : D × D) => [.j, .s, .j, .v v_m, .v v_heap, .v v_rest, .v v_odd, .j, .j, .j, .v v_kept, .v v_told, .v v_burnt, .v (z237.1), .v (z237.2), .j, .j, .j]) (ms_par2 (e_law_e39 M v_m v_heap v_kept v_told v_burnt v_rest v_odd) (e_law_e42 M v_m v_heap v_kept v_told v_burnt v_rest v_odd) (ltl rfl) (ltl rfl)) (fun _ => rfl))
def C_law_k45 : List CS := (.ite (.and (.cmp .isn (.loc 16) (.lit .none)) (.cmp .ne (.idx (.loc 9) (.lit (.int 0))) (.idx (.loc 11) (.lit (.int 0))))) [.ret (.lit (.bool false))] [] :: [])
def g_law_k45 (v_heap : D) (v_kept : D) (v_told : D) (v_values : D) (v_value : D) (v_fault : D) : Option (Fl (Unit)) := (((some v_fault).bind fun x425 => (some (PyData.none)).bind fun x426 => cmpD .isn x425 x426).bind fun b433 => if b433 then ((some v_value).bind fun x427 => (some (PyData.int 0)).bind fun x428 => idxD x427 x428).bind fun x431 => ((some v_told).bind fun x429 => (some (PyData.int 0)).bind fun x430 => idxD x429 x430).bind fun x432 => cmpD .ne x431 x432 else some false).bind fun b434 => if b434 then ((((some false).map PyData.bool)).bind fun x435 => some (Fl.rt x435)) else (some (Fl.nx ()))
theorem t_law_k45 (v_heap : D) (v_kept : D) (v_told : D) (v_values : D) (v_value : D) (v_fault : D) : TL C_law_k45 [.j, .s, .j, .j, .v v_heap, .j, .j, .j, .v v_values, .v v_value, .v v_kept, .v v_told, .j, .j, .j, .j, .v v_fault, .j] (g_law_k45 v_heap v_kept v_told v_values v_value v_fault) (fun (z436 : Unit) => [.j, .s, .j, .j, .v v_heap, .j, .j, .j, .v v_values, .j, .v v_kept, .v v_told, .j, .j, .j, .j, .j, .j]) R.v := by
  unfold C_law_k45 g_law_k45
  exact (tl_ite (pb_and (pb_cmp (pe_v rfl) (PN.pe .v (pn_lit rfl))) (pb_cmp (pe_idx (pe_v rfl) (PN.pe .v (pn_lit rfl))) (pe_idx (pe_v rfl) (PN.pe .v (pn_lit rfl))))) (tl_ofv (vl_ret (PN.pe .v (PB.pn (pb_litb _))))) (tl_nil (.j (.e (.j (.j (.e (.j (.j (.j (.e (.j (.e (.e (.j (.j (.j (.j (.j (.j .nil))))))))))))))))))))
def C_law_b44 : List CS := (.par [15, 16] [(.bi .repr [(.loc 9)]), (.call "_law_fault" F__law_fault [(.loc 4), (.loc 9)])] :: (.ite (.or (.cmp .ne (.bi .repr [(.call "judge_heap" F_judge_heap [(.loc 4), (.loc 9)])]) (.bi .repr [(.loc 16)])) (.cmp .ne (.bi .repr [(.loc 9)]) (.loc 15))) [.ret (.lit (.bool false))] [] :: C_law_k45))
def g_law_b44 (v_heap : D) (v_kept : D) (v_told : D) (v_values : D) (v_value : D) : Option (Fl (Unit)) := (((some v_value).bind fun x408 => biS .repr [x408]).bind fun x411 => ((some v_heap).bind fun x409 => (some v_value).bind fun x410 => g__law_fault x409 x410).bind fun x412 => some (x411, x412)).bind fun s407 => (((((some v_heap).bind fun x413 => (some v_value).bind fun x414 => g_judge_heap x413 x414).bind fun x415 => biS .repr [x415]).bind fun x417 => ((some s407.2).bind fun x416 => biS .repr [x416]).bind fun x418 => cmpD .ne x417 x418).bind fun b422 => if b422 then some true else ((some v_value).bind fun x419 => biS .repr [x419]).bind fun x420 => (some s407.1).bind fun x421 => cmpD .ne x420 x421).bind fun b423 => if b423 then ((((some false).map PyData.bool)).bind fun x424 => some (Fl.rt x424)) else (g_law_k45 v_heap v_kept v_told v_values v_value s407.2)
theorem t_law_b44 (v_heap : D) (v_kept : D) (v_told : D) (v_values : D) (v_value : D) : TL C_law_b44 [.j, .s, .j, .j, .v v_heap, .j, .j, .j, .v v_values, .v v_value, .v v_kept, .v v_told, .j, .j, .j, .j, .j, .j] (g_law_b44 v_heap v_kept v_told v_values v_value) (fun (z437 : Unit) => [.j, .s, .j, .j, .v v_heap, .j, .j, .j, .v v_values, .j, .v v_kept, .v v_told, .j, .j, .j, .j, .j, .j]) R.v := by
  unfold C_law_b44 g_law_b44
  exact (tl_nx (ns_eq (q := fun (s407 : D × D) => [.j, .s, .j, .j, .v v_heap, .j, .j, .j, .v v_values, .v v_value, .v v_kept, .v v_told, .j, .j, .j, .v (s407.1), .v (s407.2), .j]) (ns_par2 (PN.pe .v (pn_bi1 rfl (pe_v rfl))) (pe_call2 ok__law_fault (pe_v rfl) (pe_v rfl)) (ltl rfl) (ltl rfl)) (fun _ => rfl)) fun s407 => (tl_ite (pb_or (pb_cmp (PN.pe .v (pn_bi1 rfl (pe_call2 ok_judge_heap (pe_v rfl) (pe_v rfl)))) (PN.pe .v (pn_bi1 rfl (pe_v rfl)))) (pb_cmp (PN.pe .v (pn_bi1 rfl (pe_v rfl))) (pe_v rfl))) (tl_ofv (vl_ret (PN.pe .v (PB.pn (pb_litb _))))) (tl_wk (.j (.e (.j (.j (.e (.j (.j (.j (.e (.e (.e (.e (.j (.j (.j (.j (.e (.j .nil)))))))))))))))))) (t_law_k45 v_heap v_kept v_told v_values v_value s407.2))))
def w_law_e46 (M : Alg) (v_heap : D) (v_kept : D) (v_told : D) (v_values : D) : Wt M (Bool) := fun Q => lW M (((some v_heap).bind fun x443 => biS .repr [x443]).bind fun x444 => (some v_kept).bind fun x445 => cmpD .ne x444 x445) Q
theorem e_law_e46 (M : Alg) (v_heap : D) (v_kept : D) (v_told : D) (v_values : D) : WB M (.cmp .ne (.bi .repr [(.loc 4)]) (.loc 10)) [.j, .s, .j, .j, .v v_heap, .j, .j, .j, .v v_values, .j, .v v_kept, .v v_told, .j, .j, .j, .j, .j, .j] (w_law_e46 M v_heap v_kept v_told v_values) := by
  unfold w_law_e46
  exact (wb_p (pb_cmp (PN.pe .v (pn_bi1 rfl (pe_v rfl))) (pe_v rfl)))
def w_law_e48 (M : Alg)  : Wt M (D) := fun Q => lW M (((some false).map PyData.bool)) Q
theorem e_law_e48 (M : Alg)  : WE M R.v (.lit (.bool false)) [.j, .s, .j, .j, .j, .j, .j, .j, .j, .j, .j, .j, .j, .j, .j, .j, .j, .j] (w_law_e48 M ) := by
  unfold w_law_e48
  exact (we_p (PN.pe R.v (PB.pn (pb_litb _))))
def C_law_r47 : List CS := [.ret (.lit (.bool false))]
def g_law_r47 (M : Alg)  : Wt M D := fun Q => (w_law_e48 M) Q
theorem t_law_r47 (M : Alg)  : WV M C_law_r47 [.j, .s, .j, .j, .j, .j, .j, .j, .j, .j, .j, .j, .j, .j, .j, .j, .j, .j] (g_law_r47 M ) R.v := by
  unfold C_law_r47 g_law_r47
  exact (wv_ret (e_law_e48 M))
def C_law_k32 : List CS := (.set 5 (.bi .tuple [(.lc (.loc 13) (.one 13) (.rg1 (.loc 3)) [(.cmp .notin (.loc 13) (.loc 12))])]) :: (.set 6 (.call "_law_of" F__law_of ((.loc 1) :: ((.lst [(.lit .none), (.lit (.bool true)), (.neg (.lit (.int 1))), (.loc 3), (.lit (.str "0")), (.tup [(.lit (.int 0))]), (.lst [(.lit (.int 0))]), (.lit (.int 0)), (.bin .pow (.lit (.int 10)) (.lit (.int 9)))]) :: []))) :: (.par [13, 14] [(.call "_law_pick" F__law_pick [(.loc 1), (.bin .add (.loc 3) (.lit (.int 1)))]), (.bi .tuple [(.call "_law_mixed" F__law_mixed [(.loc 1), (.lst [.star (.rg1 (.loc 3))])])])] :: (.set 7 (.bi .tuple [(.bi .sorted [(.sli (.loc 14) .nop (.loc 13))])]) :: (.set 8 (.lst [(.loc 11), (.tup [(.lit (.str "burns")), (.bi .tuple [(.loc 12)])]), (.tup [(.lit (.str "lot")), (.loc 5)]), (.tup [(.lit (.str "burns")), (.loc 14)]), (.tup [(.lit (.str "lot")), (.loc 7)]), (.tup [(.lit (.str "lot")), (.loc 14)])]) :: (.frz 8 :: (.set 8 (.bin .add (.loc 8) (.lst [(.tup [(.lit (.str "lot")), (.bin .add (.bin .add (.sli (.loc 7) .nop (.lit (.int 1))) (.tup [(.loc 6)])) (.sli (.loc 7) (.lit (.int 1)) .nop))]), (.tup [(.lit (.str "burns")), (.bin .add (.bin .add (.sli (.loc 14) .nop (.loc 13)) (.tup [(.loc 6)])) (.sli (.loc 14) (.bin .add (.loc 13) (.lit (.int 1))) .nop))])])) :: (.frz 8 :: (.set 8 (.bin .add (.loc 8) (.lst [(.tup [(.lit (.str "lot")), (.tup [])]), (.tup [(.lit (.str "burns")), (.tup [])]), (.tup [(.lit (.str "lot")), (.loc 6)]), (.lit .none), (.tup []), (.bin .add (.loc 11) (.tup [(.lit (.int 0))])), (.sli (.loc 11) .nop (.lit (.int 1))), (.tup [(.lit (.str "Lot")), (.loc 7)])])) :: (.frz 8 :: (.set 8 (.bin .add (.loc 8) (.lst [(.bi .list [(.loc 11)]), (.tup [(.lit (.str "burns")), (.loc 7)]), (.tup [(.loc 6), (.loc 7)])])) :: (.frz 8 :: (.set 8 (.bin .add (.loc 8) (.lst [(.tup [(.lit (.str "burns")), (.bi .list [(.loc 14)])]), (.tup [(.lit (.str "burns")), (.rev (.idx (.loc 11) (.lit (.int 1))))]), (.tup [(.lit (.str "lot")), (.tup [.star (.rg1 (.loc 3))])])])) :: (.frz 8 :: (.forr (.one 9) (.loc 8) C_law_b44 :: (.ite (.cmp .ne (.bi .repr [(.loc 4)]) (.loc 10)) C_law_r47 [] :: []))))))))))))))))
def g_law_k32 (M : Alg) (v_m : D) (v_heap : D) (v_kept : D) (v_told : D) (v_burnt : D) : Wt M (Fl (Unit)) := fun Q => lW M (((((some v_m).bind rg1S).bind (filS (fun (d152 : D) => (some d152).bind fun x153 => (some v_burnt).bind fun x154 => cmpD .notin x153 x154) (fun (d151 : D) => some d151))).map PyData.list).bind fun x155 => biS .tuple [x155]) fun s150 => (w_law_e37 M v_m v_heap v_kept v_told v_burnt s150) fun s156 => (w_law_e43 M v_m v_heap v_kept v_told v_burnt s150 s156) fun s214 => lW M ((((some s214.2).bind fun x239 => (some PyData.none).bind fun x240 => ((some s214.1).bind intS).bind fun x241 => sliS x239 x240 x241).bind fun x242 => biS .sorted [x242]).bind fun x243 => biS .tuple [x243]) fun s238 => lW M (((some v_told).bind fun x276 => ((((some (PyData.str "burns")).bind fun x274 => (((some v_burnt).bind fun x273 => biS .tuple [x273]).bind fun x271 => (some []).bind fun x272 => some (x271 :: x272)).bind fun x275 => some (x274 :: x275)).map PyData.tuple).bind fun x269 => ((((some (PyData.str "lot")).bind fun x267 => ((some s150).bind fun x265 => (some []).bind fun x266 => some (x265 :: x266)).bind fun x268 => some (x267 :: x268)).map PyData.tuple).bind fun x263 => ((((some (PyData.str "burns")).bind fun x261 => ((some s214.2).bind fun x259 => (some []).bind fun x260 => some (x259 :: x260)).bind fun x262 => some (x261 :: x262)).map PyData.tuple).bind fun x257 => ((((some (PyData.str "lot")).bind fun x255 => ((some s238).bind fun x253 => (some []).bind fun x254 => some (x253 :: x254)).bind fun x256 => some (x255 :: x256)).map PyData.tuple).bind fun x251 => ((((some (PyData.str "lot")).bind fun x249 => ((some s214.2).bind fun x247 => (some []).bind fun x248 => some (x247 :: x248)).bind fun x250 => some (x249 :: x250)).map PyData.tuple).bind fun x245 => (some []).bind fun x246 => some (x245 :: x246)).bind fun x252 => some (x251 :: x252)).bind fun x258 => some (x257 :: x258)).bind fun x264 => some (x263 :: x264)).bind fun x270 => some (x269 :: x270)).bind fun x277 => some (x276 :: x277)).map PyData.list) fun s244 => lW M ((some s244).bind fun x317 => (((((some (PyData.str "lot")).bind fun x315 => (((((some s238).bind fun x303 => (some PyData.none).bind fun x304 => ((some (PyData.int 1)).bind intS).bind fun x305 => sliS x303 x304 x305).bind fun x308 => (((some s156).bind fun x306 => (some []).bind fun x307 => some (x306 :: x307)).map PyData.tuple).bind fun x309 => addS x308 x309).bind fun x313 => ((some s238).bind fun x310 => ((some (PyData.int 1)).bind intS).bind fun x311 => (some PyData.none).bind fun x312 => sliS x310 x311 x312).bind fun x314 => addS x313 x314).bind fun x301 => (some []).bind fun x302 => some (x301 :: x302)).bind fun x316 => some (x315 :: x316)).map PyData.tuple).bind fun x299 => ((((some (PyData.str "burns")).bind fun x297 => (((((some s214.2).bind fun x283 => (some PyData.none).bind fun x284 => ((some s214.1).bind intS).bind fun x285 => sliS x283 x284 x285).bind fun x288 => (((some s156).bind fun x286 => (some []).bind fun x287 => some (x286 :: x287)).map PyData.tuple).bind fun x289 => addS x288 x289).bind fun x295 => ((some s214.2).bind fun x292 => (((some s214.1).bind fun x290 => (some (PyData.int 1)).bind fun x291 => addS x290 x291).bind intS).bind fun x293 => (some PyData.none).bind fun x294 => sliS x292 x293 x294).bind fun x296 => addS x295 x296).bind fun x281 => (some []).bind fun x282 => some (x281 :: x282)).bind fun x298 => some (x297 :: x298)).map PyData.tuple).bind fun x279 => (some []).bind fun x280 => some (x279 :: x280)).bind fun x300 => some (x299 :: x300)).map PyData.list).bind fun x318 => addS x317 x318) fun s278 => lW M ((some s278).bind fun x359 => (((((some (PyData.str "lot")).bind fun x357 => (((some []).map PyData.tuple).bind fun x355 => (some []).bind fun x356 => some (x355 :: x356)).bind fun x358 => some (x357 :: x358)).map PyData.tuple).bind fun x353 => ((((some (PyData.str "burns")).bind fun x351 => (((some []).map PyData.tuple).bind fun x349 => (some []).bind fun x350 => some (x349 :: x350)).bind fun x352 => some (x351 :: x352)).map PyData.tuple).bind fun x347 => ((((some (PyData.str "lot")).bind fun x345 => ((some s156).bind fun x343 => (some []).bind fun x344 => some (x343 :: x344)).bind fun x346 => some (x345 :: x346)).map PyData.tuple).bind fun x341 => ((some (PyData.none)).bind fun x339 => (((some []).map PyData.tuple).bind fun x337 => (((some v_told).bind fun x335 => (((some (PyData.int 0)).bind fun x333 => (some []).bind fun x334 => some (x333 :: x334)).map PyData.tuple).bind fun x336 => addS x335 x336).bind fun x331 => (((some v_told).bind fun x328 => (some PyData.none).bind fun x329 => ((some (PyData.int 1)).bind intS).bind fun x330 => sliS x328 x329 x330).bind fun x326 => ((((some (PyData.str "Lot")).bind fun x324 => ((some s238).bind fun x322 => (some []).bind fun x323 => some (x322 :: x323)).bind fun x325 => some (x324 :: x325)).map PyData.tuple).bind fun x320 => (some []).bind fun x321 => some (x320 :: x321)).bind fun x327 => some (x326 :: x327)).bind fun x332 => some (x331 :: x332)).bind fun x338 => some (x337 :: x338)).bind fun x340 => some (x339 :: x340)).bind fun x342 => some (x341 :: x342)).bind fun x348 => some (x347 :: x348)).bind fun x354 => some (x353 :: x354)).map PyData.list).bind fun x360 => addS x359 x360) fun s319 => lW M ((some s319).bind fun x377 => ((((some v_told).bind fun x376 => biS .list [x376]).bind fun x374 => ((((some (PyData.str "burns")).bind fun x372 => ((some s238).bind fun x370 => (some []).bind fun x371 => some (x370 :: x371)).bind fun x373 => some (x372 :: x373)).map PyData.tuple).bind fun x368 => ((((some s156).bind fun x366 => ((some s238).bind fun x364 => (some []).bind fun x365 => some (x364 :: x365)).bind fun x367 => some (x366 :: x367)).map PyData.tuple).bind fun x362 => (some []).bind fun x363 => some (x362 :: x363)).bind fun x369 => some (x368 :: x369)).bind fun x375 => some (x374 :: x375)).map PyData.list).bind fun x378 => addS x377 x378) fun s361 => lW M ((some s361).bind fun x403 => (((((some (PyData.str "burns")).bind fun x401 => (((some s214.2).bind fun x400 => biS .list [x400]).bind fun x398 => (some []).bind fun x399 => some (x398 :: x399)).bind fun x402 => some (x401 :: x402)).map PyData.tuple).bind fun x396 => ((((some (PyData.str "burns")).bind fun x394 => ((((some v_told).bind fun x392 => (some (PyData.int 1)).bind fun x393 => idxD x392 x393).bind revS).bind fun x390 => (some []).bind fun x391 => some (x390 :: x391)).bind fun x395 => some (x394 :: x395)).map PyData.tuple).bind fun x388 => ((((some (PyData.str "lot")).bind fun x386 => ((((((some v_m).bind rg1S).bind fun x384 => (some []).bind fun x385 => some (x384 ++ x385)).bind shortS).map PyData.tuple).bind fun x382 => (some []).bind fun x383 => some (x382 :: x383)).bind fun x387 => some (x386 :: x387)).map PyData.tuple).bind fun x380 => (some []).bind fun x381 => some (x380 :: x381)).bind fun x389 => some (x388 :: x389)).bind fun x397 => some (x396 :: x397)).map PyData.list).bind fun x404 => addS x403 x404) fun s379 => lW M (((some s379).bind seqOf).bind fun xs438 => forF (fun (d406 : D) (s405 : Unit) => g_law_b44 v_heap v_kept v_told s379 d406) xs438 ()) (flW M (fun (s405 : Unit) Q => (w_law_e46 M v_heap v_kept v_told s379) fun b439 => if b439 then (g_law_r47 M fun x446 => Q (Fl.rt x446)) else (Q (Fl.nx ()))) Fl.rt Q)
theorem t_law_k32 (M : Alg) (v_m : D) (v_heap : D) (v_kept : D) (v_told : D) (v_burnt : D) : WL M C_law_k32 [.j, .s, .j, .v v_m, .v v_heap, .j, .j, .j, .j, .j, .v v_kept, .v v_told, .v v_burnt, .j, .j, .j, .j, .j] (g_law_k32 M v_m v_heap v_kept v_told v_burnt) (fun (z447 : Unit) => [.j, .s, .j, .j, .j, .j, .j, .j, .j, .j, .j, .j, .j, .j, .j, .j, .j, .j]) R.v := by
  unfold C_law_k32 g_law_k32
  exact (wl_nx (ns_eq (q := fun (s150 : D) => [.j, .s, .j, .v v_m, .v v_heap, .v s150, .j, .j, .j, .j, .v v_kept, .v v_told, .v v_burnt, .j, .j, .j, .j, .j]) (ns_setU (PN.pe .v (pn_bi1 rfl (pe_lc1 (pi_rgA (pe_v rfl)) (fun d152 => (cc_bt (qs := [.j, .s, .j, .v v_m, .v v_heap, .j, .j, .j, .j, .j, .v v_kept, .v v_told, .v v_burnt, .v d152, .j, .j, .j, .j]) (bt_one (ltl rfl)) (pb_cmp (pe_v rfl) (pe_v rfl)))) (fun d151 => (ce_bt (qs := [.j, .s, .j, .v v_m, .v v_heap, .j, .j, .j, .j, .j, .v v_kept, .v v_told, .v v_burnt, .v d151, .j, .j, .j, .j]) (bt_one (ltl rfl)) (pe_v rfl)))))) (ltl rfl)) (fun _ => rfl)) fun s150 => (wl_m (e_law_e37 M v_m v_heap v_kept v_told v_burnt s150) fun s156 => (wl_m (e_law_e43 M v_m v_heap v_kept v_told v_burnt s150 s156) fun s214 => (wl_nx (ns_eq (q := fun (s238 : D) => [.j, .s, .j, .v v_m, .v v_heap, .v s150, .v s156, .v s238, .j, .j, .v v_kept, .v v_told, .v v_burnt, .v (s214.1), .v (s214.2), .j, .j, .j]) (ns_setU (PN.pe .v (pn_bi1 rfl (pe_bi1 (pe_sli (pe_v rfl) pp_nop (pp_e rfl (pe_v rfl)))))) (ltl rfl)) (fun _ => rfl)) fun s238 => (wl_nx (ns_eq (q := fun (s244 : D) => [.j, .s, .j, .v v_m, .v v_heap, .v s150, .v s156, .v s238, .c s244, .j, .v v_kept, .v v_told, .v v_burnt, .v (s214.1), .v (s214.2), .j, .j, .j]) (ns_setU (pe_lstS (by decide) (pss_cons' (pe_v rfl) (pss_cons' (PN.pe .v (pn_tupS (by decide) (pss_cons' (PN.pe .v (pn_lit rfl)) (pss_cons' (PN.pe .v (pn_bi1 rfl (pe_v rfl))) pss_nil')))) (pss_cons' (PN.pe .v (pn_tupS (by decide) (pss_cons' (PN.pe .v (pn_lit rfl)) (pss_cons' (pe_v rfl) pss_nil')))) (pss_cons' (PN.pe .v (pn_tupS (by decide) (pss_cons' (PN.pe .v (pn_lit rfl)) (pss_cons' (pe_v rfl) pss_nil')))) (pss_cons' (PN.pe .v (pn_tupS (by decide) (pss_cons' (PN.pe .v (pn_lit rfl)) (pss_cons' (pe_v rfl) pss_nil')))) (pss_cons' (PN.pe .v (pn_tupS (by decide) (pss_cons' (PN.pe .v (pn_lit rfl)) (pss_cons' (pe_v rfl) pss_nil')))) pss_nil'))))))) (ltl rfl)) (fun _ => rfl)) fun s244 => (wl_frz (i := 8) (d := s244) rfl (wl_nx (ns_eq (q := fun (s278 : D) => [.j, .s, .j, .v v_m, .v v_heap, .v s150, .v s156, .v s238, .c s278, .j, .v v_kept, .v v_told, .v v_burnt, .v (s214.1), .v (s214.2), .j, .j, .j]) (ns_setU (pe_bin (pe_v rfl) (pe_lstS (by decide) (pss_cons' (PN.pe .v (pn_tupS (by decide) (pss_cons' (PN.pe .v (pn_lit rfl)) (pss_cons' (pe_bin (pe_bin (pe_sli (pe_v rfl) pp_nop (pp_e rfl (PN.pe .v (pn_lit rfl)))) (PN.pe .v (pn_tupS (by decide) (pss_cons' (pe_v rfl) pss_nil')))) (pe_sli (pe_v rfl) (pp_e rfl (PN.pe .v (pn_lit rfl))) pp_nop)) pss_nil')))) (pss_cons' (PN.pe .v (pn_tupS (by decide) (pss_cons' (PN.pe .v (pn_lit rfl)) (pss_cons' (pe_bin (pe_bin (pe_sli (pe_v rfl) pp_nop (pp_e rfl (pe_v rfl))) (PN.pe .v (pn_tupS (by decide) (pss_cons' (pe_v rfl) pss_nil')))) (pe_sli (pe_v rfl) (pp_e rfl (pe_bin (pe_v rfl) (PN.pe .v (pn_lit rfl)))) pp_nop)) pss_nil')))) pss_nil')))) (ltl rfl)) (fun _ => rfl)) fun s278 => (wl_frz (i := 8) (d := s278) rfl (wl_nx (ns_eq (q := fun (s319 : D) => [.j, .s, .j, .v v_m, .v v_heap, .v s150, .v s156, .v s238, .c s319, .j, .v v_kept, .v v_told, .v v_burnt, .v (s214.1), .v (s214.2), .j, .j, .j]) (ns_setU (pe_bin (pe_v rfl) (pe_lstS (by decide) (pss_cons' (PN.pe .v (pn_tupS (by decide) (pss_cons' (PN.pe .v (pn_lit rfl)) (pss_cons' (PN.pe .v (pn_tupS (by decide) pss_nil')) pss_nil')))) (pss_cons' (PN.pe .v (pn_tupS (by decide) (pss_cons' (PN.pe .v (pn_lit rfl)) (pss_cons' (PN.pe .v (pn_tupS (by decide) pss_nil')) pss_nil')))) (pss_cons' (PN.pe .v (pn_tupS (by decide) (pss_cons' (PN.pe .v (pn_lit rfl)) (pss_cons' (pe_v rfl) pss_nil')))) (pss_cons' (PN.pe .v (pn_lit rfl)) (pss_cons' (PN.pe .v (pn_tupS (by decide) pss_nil')) (pss_cons' (pe_bin (pe_v rfl) (PN.pe .v (pn_tupS (by decide) (pss_cons' (PN.pe .v (pn_lit rfl)) pss_nil')))) (pss_cons' (pe_sli (pe_v rfl) pp_nop (pp_e rfl (PN.pe .v (pn_lit rfl)))) (pss_cons' (PN.pe .v (pn_tupS (by decide) (pss_cons' (PN.pe .v (pn_lit rfl)) (pss_cons' (pe_v rfl) pss_nil')))) pss_nil')))))))))) (ltl rfl)) (fun _ => rfl)) fun s319 => (wl_frz (i := 8) (d := s319) rfl (wl_nx (ns_eq (q := fun (s361 : D) => [.j, .s, .j, .v v_m, .v v_heap, .v s150, .v s156, .v s238, .c s361, .j, .v v_kept, .v v_told, .v v_burnt, .v (s214.1), .v (s214.2), .j, .j, .j]) (ns_setU (pe_bin (pe_v rfl) (pe_lstS (by decide) (pss_cons' (pe_bi1 (pe_v rfl)) (pss_cons' (PN.pe .v (pn_tupS (by decide) (pss_cons' (PN.pe .v (pn_lit rfl)) (pss_cons' (pe_v rfl) pss_nil')))) (pss_cons' (PN.pe .v (pn_tupS (by decide) (pss_cons' (pe_v rfl) (pss_cons' (pe_v rfl) pss_nil')))) pss_nil'))))) (ltl rfl)) (fun _ => rfl)) fun s361 => (wl_frz (i := 8) (d := s361) rfl (wl_nx (ns_eq (q := fun (s379 : D) => [.j, .s, .j, .v v_m, .v v_heap, .v s150, .v s156, .v s238, .c s379, .j, .v v_kept, .v v_told, .v v_burnt, .v (s214.1), .v (s214.2), .j, .j, .j]) (ns_setU (pe_bin (pe_v rfl) (pe_lstS (by decide) (pss_cons' (PN.pe .v (pn_tupS (by decide) (pss_cons' (PN.pe .v (pn_lit rfl)) (pss_cons' (pe_bi1 (pe_v rfl)) pss_nil')))) (pss_cons' (PN.pe .v (pn_tupS (by decide) (pss_cons' (PN.pe .v (pn_lit rfl)) (pss_cons' (pe_rev (pe_idx (pe_v rfl) (PN.pe .v (pn_lit rfl)))) pss_nil')))) (pss_cons' (PN.pe .v (pn_tupS (by decide) (pss_cons' (PN.pe .v (pn_lit rfl)) (pss_cons' (PN.pe .v (pn_tup (px_star (pi_rgA (pe_v rfl)) px_nil))) pss_nil')))) pss_nil'))))) (ltl rfl)) (fun _ => rfl)) fun s379 => (wl_frz (i := 8) (d := s379) rfl (wl_fl (ts_forV (inv := fun (s405 : Unit) => [.j, .s, .j, .j, .v v_heap, .j, .j, .j, .v s379, .j, .v v_kept, .v v_told, .j, .j, .j, .j, .j, .j]) rfl rfl (PE.pi (pe_v rfl)) (.j (.e (.j (.j (.e (.j (.j (.j (.e (.j (.e (.e (.j (.j (.j (.j (.j (.j .nil)))))))))))))))))) fun d406 s405 => (tb_bt (qs := [.j, .s, .j, .j, .v v_heap, .j, .j, .j, .v s379, .v d406, .v v_kept, .v v_told, .j, .j, .j, .j, .j, .j]) (bt_one (ltl rfl)) (t_law_b44 v_heap v_kept v_told s379 d406))) fun s405 => (wl_ite (e_law_e46 M v_heap v_kept v_told s379) (wl_ofv (wv_wk (.j (.e (.j (.j (.j (.j (.j (.j (.j (.j (.j (.j (.j (.j (.j (.j (.j (.j .nil)))))))))))))))))) (t_law_r47 M))) (wl_nil (.j (.e (.j (.j (.j (.j (.j (.j (.j (.j (.j (.j (.j (.j (.j (.j (.j (.j .nil)))))))))))))))))))))))))))))))))))
def C_law_k28 : List CS := (.par [10, 11, 12] [(.bi .repr [(.loc 4)]), (.call "heap_paper" F_heap_paper [(.loc 4)]), (.call "_law_burnt" F__law_burnt [(.loc 4)])] :: (.ite (.or (.cmp .ne (.cmp .eq (.idx (.loc 11) (.lit (.int 0))) (.lit (.str "burns"))) (.cmp .eq (.bi .len [(.loc 12)]) (.loc 3))) (.cmp .notn (.call "_law_fault" F__law_fault [(.loc 4), (.loc 11)]) (.lit .none))) C_law_r30 [] :: C_law_k32))
def g_law_k28 (M : Alg) (v_m : D) (v_heap : D) : Wt M (Fl (Unit)) := fun Q => lW M (((some v_heap).bind fun x114 => biS .repr [x114]).bind fun x117 => ((some v_heap).bind fun x115 => g_heap_paper x115).bind fun x118 => ((some v_heap).bind fun x116 => g__law_burnt x116).bind fun x119 => some (x117, x118, x119)) fun s113 => (w_law_e29 M v_m v_heap s113.1 s113.2.1 s113.2.2) fun b120 => if b120 then (g_law_r30 M fun x149 => Q (Fl.rt x149)) else (g_law_k32 M v_m v_heap s113.1 s113.2.1 s113.2.2 Q)
theorem t_law_k28 (M : Alg) (v_m : D) (v_heap : D) : WL M C_law_k28 [.j, .s, .j, .v v_m, .v v_heap, .j, .j, .j, .j, .j, .j, .j, .j, .j, .j, .j, .j, .j] (g_law_k28 M v_m v_heap) (fun (z448 : Unit) => [.j, .s, .j, .j, .j, .j, .j, .j, .j, .j, .j, .j, .j, .j, .j, .j, .j, .j]) R.v := by
  unfold C_law_k28 g_law_k28
  exact (wl_nx (ns_eq (q := fun (s113 : D × D × D) => [.j, .s, .j, .v v_m, .v v_heap, .j, .j, .j, .j, .j, .v (s113.1), .v (s113.2.1), .v (s113.2.2), .j, .j, .j, .j, .j]) (ns_par3 (PN.pe .v (pn_bi1 rfl (pe_v rfl))) (pe_call1 ok_heap_paper (pe_v rfl)) (pe_call1 ok__law_burnt (pe_v rfl)) (ltl rfl) (ltl rfl) (ltl rfl)) (fun _ => rfl)) fun s113 => (wl_ite (e_law_e29 M v_m v_heap s113.1 s113.2.1 s113.2.2) (wl_ofv (wv_wk (.j (.e (.j (.j (.j (.j (.j (.j (.j (.j (.j (.j (.j (.j (.j (.j (.j (.j .nil)))))))))))))))))) (t_law_r30 M))) (wl_wk (.j (.e (.j (.e (.e (.j (.j (.j (.j (.j (.e (.e (.e (.j (.j (.j (.j (.j .nil)))))))))))))))))) (t_law_k32 M v_m v_heap s113.1 s113.2.1 s113.2.2))))
def C_law_b2 : List CS := (.set 3 (.call "_law_pick" F__law_pick [(.loc 1), (.idx (.lst [(.lit (.int 3)), (.lit (.int 5)), (.lit (.int 8)), (.lit (.int 12))]) (.loc 2))]) :: (.set 4 (.bi .tuple [(.lc (.call "_law_pick" F__law_pick [(.loc 1), (.bi .max2 [(.lit (.int 1)), (.loc 3)])]) (.one 13) (.rg1 (.loc 3)) [])]) :: (.ite (.cmp .eq (.call "_law_pick" F__law_pick [(.loc 1), (.lit (.int 2))]) (.lit (.int 0))) C_law_b16 C_law_b26 :: C_law_k28)))
def g_law_b2 (M : Alg) (v_lap : D) : Wt M (Fl (Unit)) := fun Q => (w_law_e5 M v_lap) fun s3 => (w_law_e11 M v_lap s3) fun s31 => (w_law_e27 M s3 s31) (flW M (fun (s83 : D) Q => g_law_k28 M s3 s83 Q) Fl.rt Q)
theorem t_law_b2 (M : Alg) (v_lap : D) : WL M C_law_b2 [.j, .s, .v v_lap, .j, .j, .j, .j, .j, .j, .j, .j, .j, .j, .j, .j, .j, .j, .j] (g_law_b2 M v_lap) (fun (z449 : Unit) => [.j, .s, .j, .j, .j, .j, .j, .j, .j, .j, .j, .j, .j, .j, .j, .j, .j, .j]) R.v := by
  unfold C_law_b2 g_law_b2
  exact (wl_m (e_law_e5 M v_lap) fun s3 => (wl_m (e_law_e11 M v_lap s3) fun s31 => (wl_s (ws_pre (.j (.e (.j (.e (.e (.j (.j (.j (.j (.j (.j (.j (.j (.j (.j (.j (.j (.j .nil)))))))))))))))))) (e_law_e27 M s3 s31)) fun s83 => (wl_wk (.j (.e (.j (.e (.e (.j (.j (.j (.j (.j (.j (.j (.j (.j (.j (.j (.j (.j .nil)))))))))))))))))) (t_law_k28 M s3 s83)))))
def w_law_e49 (M : Alg)  : Wt M (Fl (Unit)) := fun Q => (w_law_e1 M) fun xs450 => forW M (fun (d2 : D) (s1 : Unit) => g_law_b2 M d2) xs450 () Q
theorem e_law_e49 (M : Alg)  : WS M (.forr (.one 2) (.rg1 (.lit (.int 4))) C_law_b2) [.j, .s, .j, .j, .j, .j, .j, .j, .j, .j, .j, .j, .j, .j, .j, .j, .j, .j] (w_law_e49 M ) (fun (z451 : Unit) => [.j, .s, .j, .j, .j, .j, .j, .j, .j, .j, .j, .j, .j, .j, .j, .j, .j, .j]) R.v := by
  unfold w_law_e49
  exact (ws_for0 (inv := fun (s1 : Unit) => [.j, .s, .j, .j, .j, .j, .j, .j, .j, .j, .j, .j, .j, .j, .j, .j, .j, .j]) (f := (fun (d2 : D) (s1 : Unit) => g_law_b2 M d2)) rfl (e_law_e1 M) (.j (.e (.j (.j (.j (.j (.j (.j (.j (.j (.j (.j (.j (.j (.j (.j (.j (.j .nil)))))))))))))))))) fun d2 s1 => (xb_bt (qs := [.j, .s, .v d2, .j, .j, .j, .j, .j, .j, .j, .j, .j, .j, .j, .j, .j, .j, .j]) (bt_one (ltl rfl)) (t_law_b2 M d2)))
def w_law_e50 (M : Alg)  : Wt M (D) := fun Q => lW M ((((((((some (PyData.int 0)).bind fun x498 => ((some (PyData.int 0)).bind fun x496 => ((some (PyData.int 2)).bind fun x494 => (some []).bind fun x495 => some (x494 :: x495)).bind fun x497 => some (x496 :: x497)).bind fun x499 => some (x498 :: x499)).map PyData.tuple).bind fun x500 => g_heap_paper x500).bind fun x509 => (((some (PyData.str "lot")).bind fun x507 => ((((some (PyData.int 0)).bind fun x505 => ((some (PyData.int 1)).bind fun x503 => (some []).bind fun x504 => some (x503 :: x504)).bind fun x506 => some (x505 :: x506)).map PyData.tuple).bind fun x501 => (some []).bind fun x502 => some (x501 :: x502)).bind fun x508 => some (x507 :: x508)).map PyData.tuple).bind fun x510 => cmpD .eq x509 x510).bind fun b535 => if b535 then ((((some (PyData.int 1)).bind fun x515 => ((some (PyData.int 2)).bind fun x513 => ((some (PyData.int 1)).bind fun x511 => (some []).bind fun x512 => some (x511 :: x512)).bind fun x514 => some (x513 :: x514)).bind fun x516 => some (x515 :: x516)).map PyData.tuple).bind fun x527 => (((some (PyData.str "burns")).bind fun x525 => ((((some (PyData.int 0)).bind fun x523 => ((some (PyData.int 1)).bind fun x521 => ((some (PyData.int 2)).bind fun x519 => (some []).bind fun x520 => some (x519 :: x520)).bind fun x522 => some (x521 :: x522)).bind fun x524 => some (x523 :: x524)).map PyData.tuple).bind fun x517 => (some []).bind fun x518 => some (x517 :: x518)).bind fun x526 => some (x525 :: x526)).map PyData.tuple).bind fun x528 => g_judge_heap x527 x528).bind fun x533 => (((some (PyData.str "burns")).bind fun x531 => ((some (PyData.int 0)).bind fun x529 => (some []).bind fun x530 => some (x529 :: x530)).bind fun x532 => some (x531 :: x532)).map PyData.tuple).bind fun x534 => cmpD .eq x533 x534 else some false).map PyData.bool)) Q
theorem e_law_e50 (M : Alg)  : WE M R.v (.and (.cmp .eq (.call "heap_paper" F_heap_paper [(.tup [(.lit (.int 0)), (.lit (.int 0)), (.lit (.int 2))])]) (.tup [(.lit (.str "lot")), (.tup [(.lit (.int 0)), (.lit (.int 1))])])) (.cmp .eq (.call "judge_heap" F_judge_heap [(.tup [(.lit (.int 1)), (.lit (.int 2)), (.lit (.int 1))]), (.tup [(.lit (.str "burns")), (.tup [(.lit (.int 0)), (.lit (.int 1)), (.lit (.int 2))])])]) (.tup [(.lit (.str "burns")), (.lit (.int 0))]))) [.j, .s, .j, .j, .j, .j, .j, .j, .j, .j, .j, .j, .j, .j, .j, .j, .j, .j] (w_law_e50 M ) := by
  unfold w_law_e50
  exact (we_p (PN.pe R.v (PB.pn (pb_and (pb_cmp (pe_call1 ok_heap_paper (PN.pe .v (pn_tupS (by decide) (pss_cons' (PN.pe .v (pn_lit rfl)) (pss_cons' (PN.pe .v (pn_lit rfl)) (pss_cons' (PN.pe .v (pn_lit rfl)) pss_nil')))))) (PN.pe .v (pn_tupS (by decide) (pss_cons' (PN.pe .v (pn_lit rfl)) (pss_cons' (PN.pe .v (pn_tupS (by decide) (pss_cons' (PN.pe .v (pn_lit rfl)) (pss_cons' (PN.pe .v (pn_lit rfl)) pss_nil')))) pss_nil'))))) (pb_cmp (pe_call2 ok_judge_heap (PN.pe .v (pn_tupS (by decide) (pss_cons' (PN.pe .v (pn_lit rfl)) (pss_cons' (PN.pe .v (pn_lit rfl)) (pss_cons' (PN.pe .v (pn_lit rfl)) pss_nil'))))) (PN.pe .v (pn_tupS (by decide) (pss_cons' (PN.pe .v (pn_lit rfl)) (pss_cons' (PN.pe .v (pn_tupS (by decide) (pss_cons' (PN.pe .v (pn_lit rfl)) (pss_cons' (PN.pe .v (pn_lit rfl)) (pss_cons' (PN.pe .v (pn_lit rfl)) pss_nil'))))) pss_nil'))))) (PN.pe .v (pn_tupS (by decide) (pss_cons' (PN.pe .v (pn_lit rfl)) (pss_cons' (PN.pe .v (pn_lit rfl)) pss_nil')))))))))
def N_law : List Str := ["script", "source", "lap", "m", "heap", "rest", "odd", "lot", "values", "value", "kept", "told", "burnt", "k", "drawn", "shown", "fault", "one"]
def B_law : List CS := (.forr (.one 2) (.rg1 (.lit (.int 4))) C_law_b2 :: [.ret (.and (.cmp .eq (.call "heap_paper" F_heap_paper [(.tup [(.lit (.int 0)), (.lit (.int 0)), (.lit (.int 2))])]) (.tup [(.lit (.str "lot")), (.tup [(.lit (.int 0)), (.lit (.int 1))])])) (.cmp .eq (.call "judge_heap" F_judge_heap [(.tup [(.lit (.int 1)), (.lit (.int 2)), (.lit (.int 1))]), (.tup [(.lit (.str "burns")), (.tup [(.lit (.int 0)), (.lit (.int 1)), (.lit (.int 2))])])]) (.tup [(.lit (.str "burns")), (.lit (.int 0))])))])
def w_law (M : Alg) : Wt M D := fun Q => (w_law_e49 M) (flW M (fun (s1 : Unit) Q => (w_law_e50 M) Q) id Q)
theorem wv_law (M : Alg) : WV M B_law [.j, .s, .j, .j, .j, .j, .j, .j, .j, .j, .j, .j, .j, .j, .j, .j, .j, .j] (w_law M) R.v := by
  unfold B_law w_law
  exact (wv_s (ws_pre (.j (.e (.j (.j (.j (.j (.j (.j (.j (.j (.j (.j (.j (.j (.j (.j (.j (.j .nil)))))))))))))))))) (e_law_e49 M)) fun s1 => (wv_ret (e_law_e50 M)))
theorem lawB (h : w_law boolA tB = true) : LawTrue N_law.length 1 B_law := lawTrue_B (wv_law boolA) h
theorem lawP (h : w_law propA fun d => d = .bool true) : LawTrue N_law.length 1 B_law := lawTrue_P (wv_law propA) h
end Kk22
namespace K22m
open PySem Pm
/-- numbers of a crossing -/
abbrev at_ (h : List Int) (k : Int) : Int := h.getD k.toNat 0
/-- those that burn next -/
def cand (h f : List Int) : List Int := (rgL h.length).filter fun k => !decide (k ∈ f) && decide ((h.length : Int) ≤ at_ h k + 1 + f.length)
structure Valid (h f : List Int) : Prop where
  nd : f.Nodup
  rg : ∀ k ∈ f, 0 ≤ k ∧ k < h.length
  ok : ∀ i (hi : i < f.length), (h.length : Int) ≤ at_ h f[i] + 1 + i
theorem cand_mem {h f : List Int} {k : Int} : k ∈ cand h f ↔ (0 ≤ k ∧ k < h.length) ∧ k ∉ f ∧ (h.length : Int) ≤ at_ h k + 1 + f.length := by
  unfold cand
  rw [List.mem_filter, rgL_mem]
  simp
theorem Valid.nil (h : List Int) : Valid h [] := ⟨List.nodup_nil, by simp, by simp⟩
theorem Valid.snoc {h f : List Int} {k : Int} (v : Valid h f) (hk : k ∈ cand h f) : Valid h (f ++ [k]) := by
  obtain ⟨h1, h2, h3⟩ := cand_mem.mp hk
  refine ⟨?_, ?_, fun i hi => ?_⟩
  · rw [List.nodup_append]
    refine ⟨v.nd, by simp, ?_⟩
    intro a ha b hb
    simp at hb
    subst hb
    exact fun e => h2 (e ▸ ha)
  · intro x hx
    rcases List.mem_append.mp hx with hx | hx
    · exact v.rg x hx
    · simp at hx; subst hx; exact h1
  · by_cases q : i < f.length
    · rw [List.getElem_append_left q]; exact v.ok i q
    · have e : i = f.length := by simp at hi; omega
      subst e
      simp
      exact h3
theorem Valid.len {h f : List Int} (v : Valid h f) : f.length ≤ h.length := by
  have : f.length ≤ (rgL h.length).length := v.nd.length_le_of_subset fun x hx => rgL_mem.mpr (v.rg x hx)
  simpa [rgL_len] using this
/-- a step takes one that burns, if there is one -/
def Step (h : List Int) (s : List Int → List Int) : Prop := ∀ f, (cand h f = [] → s f = f) ∧ (cand h f ≠ [] → ∃ k ∈ cand h f, s f = f ++ [k])
def iter (s : List Int → List Int) : Nat → List Int → List Int
  | 0, f => f
  | n + 1, f => iter s n (s f)
theorem iter_ok {h : List Int} {s : List Int → List Int} (hs : Step h s) : ∀ (n : Nat) (f : List Int), Valid h f → Valid h (iter s n f) ∧ ((iter s n f).length = f.length + n ∨ cand h (iter s n f) = [])
  | 0, f, v => ⟨v, .inl rfl⟩
  | n + 1, f, v => by
    by_cases c : cand h f = []
    · have e := (hs f).1 c
      have st : ∀ n, iter s n f = f := by
        intro n
        induction n with
        | zero => rfl
        | succ n ih => show iter s n (s f) = f; rw [e]; exact ih
      rw [st]
      exact ⟨v, .inr c⟩
    · obtain ⟨k, hk, e⟩ := (hs f).2 c
      obtain ⟨v2, l2⟩ := iter_ok hs n (f ++ [k]) (v.snoc hk)
      show Valid h (iter s n (s f)) ∧ _
      rw [show iter s (n + 1) f = iter s n (s f) from rfl, e]
      refine ⟨v2, ?_⟩
      rcases l2 with l2 | l2
      · left; rw [l2]; simp; omega
      · exact .inr l2
theorem burn_all {h s : List Int} {b : List Int} (vb : Valid h b) (lb : b.length = h.length) (v : Valid h s) (c : cand h s = []) : s.length = h.length := by
  apply Classical.byContradiction
  intro hne
  have hle := v.len
  have ex : ∃ n, ∃ hn : n < b.length, b[n] ∉ s := by
    apply Classical.byContradiction
    intro q
    have sub : b ⊆ s := fun x hx => by
      obtain ⟨i, hi, rfl⟩ := List.getElem_of_mem hx
      apply Classical.byContradiction
      intro z; exact q ⟨i, hi, z⟩
    have := vb.nd.length_le_of_subset sub
    omega
  have least : ∀ n, (∃ hn : n < b.length, b[n] ∉ s) → ∃ i, (∃ hi : i < b.length, b[i] ∉ s) ∧ ∀ j < i, ∀ hj : j < b.length, b[j] ∈ s := by
    intro n
    induction n using Nat.strongRecOn with
    | ind n ih =>
      intro hn
      by_cases q : ∃ j, j < n ∧ ∃ hj : j < b.length, b[j] ∉ s
      · obtain ⟨j, hj, hq⟩ := q; exact ih j hj hq
      · refine ⟨n, hn, fun j hj hj2 => ?_⟩
        apply Classical.byContradiction
        intro z; exact q ⟨j, hj, hj2, z⟩
  obtain ⟨n, hn⟩ := ex
  obtain ⟨i, ⟨hi, hni⟩, hlt⟩ := least n hn
  have sub : b.take i ⊆ s := fun x hx => by
    obtain ⟨j, hj, rfl⟩ := List.getElem_of_mem hx
    rw [List.getElem_take]
    rw [List.length_take] at hj
    exact hlt j (by omega) (by omega)
  have len := (vb.nd.sublist (List.take_sublist i b)).length_le_of_subset sub
  rw [List.length_take] at len
  have := vb.ok i hi
  have mem : b[i] ∈ cand h s := cand_mem.mpr ⟨vb.rg _ (List.getElem_mem hi), hni, by omega⟩
  rw [c] at mem
  cases mem
/-- a lot none of which burns -/
theorem lot_bars {h b lot : List Int} (vb : Valid h b) (lb : b.length = h.length) (nd : lot.Nodup) (ne : lot ≠ []) (rg : ∀ k ∈ lot, 0 ≤ k ∧ k < h.length) (few : ∀ k ∈ lot, at_ h k < lot.length - 1) : False := by
  have ex : ∃ n, ∃ hn : n < b.length, b[n] ∈ lot := by
    cases lot with
    | nil => exact absurd rfl ne
    | cons x r =>
      have hx := rg x List.mem_cons_self
      have : x ∈ b := by
        apply Classical.byContradiction
        intro q
        have : (x :: b).length ≤ (rgL h.length).length := (List.nodup_cons.mpr ⟨q, vb.nd⟩).length_le_of_subset fun y hy => by
          rcases List.mem_cons.mp hy with rfl | hy
          · exact rgL_mem.mpr hx
          · exact rgL_mem.mpr (vb.rg y hy)
        simp [rgL_len] at this
        omega
      obtain ⟨i, hi, e⟩ := List.getElem_of_mem this
      exact ⟨i, hi, by rw [e]; exact List.mem_cons_self⟩
  have least : ∀ n, (∃ hn : n < b.length, b[n] ∈ lot) → ∃ i, (∃ hi : i < b.length, b[i] ∈ lot) ∧ ∀ j < i, ∀ hj : j < b.length, b[j] ∉ lot := by
    intro n
    induction n using Nat.strongRecOn with
    | ind n ih =>
      intro hn
      by_cases q : ∃ j, j < n ∧ ∃ hj : j < b.length, b[j] ∈ lot
      · obtain ⟨j, hj, hq⟩ := q; exact ih j hj hq
      · exact ⟨n, hn, fun j hj hj2 z => q ⟨j, hj, hj2, z⟩⟩
  obtain ⟨n, hn⟩ := ex
  obtain ⟨i, ⟨hi, hmem⟩, hlt⟩ := least n hn
  have nd2 : (b.take i ++ lot).Nodup := by
    rw [List.nodup_append]
    refine ⟨vb.nd.sublist (List.take_sublist i b), nd, fun x hx y hy e => ?_⟩
    obtain ⟨j, hj, rfl⟩ := List.getElem_of_mem hx
    rw [List.getElem_take] at e
    rw [List.length_take] at hj
    exact hlt j (by omega) (by omega) (e ▸ hy)
  have len : (b.take i ++ lot).length ≤ (rgL h.length).length := nd2.length_le_of_subset fun x hx => by
    rcases List.mem_append.mp hx with hx | hx
    · exact rgL_mem.mpr (vb.rg x (List.mem_of_mem_take hx))
    · exact rgL_mem.mpr (rg x hx)
  have := vb.ok i hi
  have := few _ hmem
  rw [List.length_append, List.length_take, rgL_len] at len
  omega
/-- the rest where nothing burns -/
def rest (h f : List Int) : List Int := (rgL h.length).filter fun k => !decide (k ∈ f)
theorem rest_len {h f : List Int} (v : Valid h f) : (rest h f).length = h.length - f.length := by
  have e : (rgL h.length).Perm (f ++ rest h f) := by
    have nd2 : (f ++ rest h f).Nodup := by
      rw [List.nodup_append]
      refine ⟨v.nd, ((rgL_sorted _).imp fun h => by omega).filter _, fun x hx y hy e => ?_⟩
      unfold rest at hy
      rw [List.mem_filter] at hy
      subst e
      simp [hx] at hy
    refine (List.perm_ext_iff_of_nodup ((rgL_sorted _).imp fun h => by omega) nd2).mpr fun x => ?_
    rw [List.mem_append]
    unfold rest
    rw [List.mem_filter]
    constructor
    · intro hx
      by_cases q : x ∈ f
      · exact .inl q
      · exact .inr ⟨hx, by simp [q]⟩
    · rintro (hx | hx)
      · exact rgL_mem.mpr (v.rg x hx)
      · exact hx.1
  have := e.length_eq
  rw [List.length_append, rgL_len] at this
  omega
theorem rest_few {h f : List Int} (v : Valid h f) (c : cand h f = []) : ∀ k ∈ rest h f, at_ h k < (rest h f).length - 1 := by
  intro k hk
  have hk0 := hk
  unfold rest at hk
  rw [List.mem_filter, rgL_mem] at hk
  have := v.len
  rw [rest_len v]
  apply Classical.byContradiction
  intro q
  have mem : k ∈ cand h f := cand_mem.mpr ⟨hk.1, by simpa using hk.2, by omega⟩
  rw [c] at mem
  cases mem
end K22m
namespace Kk22
open PySem Pm K22m
theorem toNat_cast (i : Nat) : ((i : Int)).toNat = i := by omega
theorem cand_eq (h f : List Int) : ((List.range h.length).filter fun (i : Nat) => (fun (k x : Int) => !decide (k ∈ f) && decide ((h.length : Int) ≤ x + 1 + f.length)) i (h.getD i 0)).map (fun (i : Nat) => (i : Int)) = cand h f := by
  unfold cand rgL
  rw [List.filter_map]
  rfl
def stepP (h f : List Int) : List Int := f ++ (cand h f).take 1
def stepL (h f : List Int) : List Int := f ++ (cand h f).drop ((cand h f).length - 1)
theorem stepP_step (h : List Int) : Step h (stepP h) := fun f => ⟨fun e => by simp [stepP, e], fun e => by
  unfold stepP
  cases q : cand h f with
  | nil => exact absurd q e
  | cons k r => exact ⟨k, List.mem_cons_self, rfl⟩⟩
theorem stepL_step (h : List Int) : Step h (stepL h) := fun f => ⟨fun e => by simp [stepL, e], fun e => by
  unfold stepL
  refine ⟨(cand h f).getLast e, List.getLast_mem e, ?_⟩
  have hp : 0 < (cand h f).length := List.length_pos_iff.mpr e
  rw [List.drop_eq_getElem_cons (by omega), List.drop_of_length_le (by omega), List.getLast_eq_getElem]⟩
theorem step_valid {h : List Int} {s : List Int → List Int} (hs : Step h s) {f : List Int} (v : Valid h f) : Valid h (s f) := by
  by_cases c : cand h f = []
  · rw [(hs f).1 c]; exact v
  · obtain ⟨k, hk, e⟩ := (hs f).2 c
    rw [e]; exact v.snoc hk
theorem cand_len (h f : List Int) : (cand h f).length ≤ h.length := by
  unfold cand
  have := List.length_filter_le (fun k => !decide (k ∈ f) && decide ((h.length : Int) ≤ at_ h k + 1 + f.length)) (rgL h.length)
  rwa [rgL_len] at this
variable {h : List Int} (hm : h.length ≤ 1000)
include hm
theorem burnt_b1 {f : List Int} (v : Valid h f) (d : D) : g_burnt_so_far_b1 (tI h) (lI f) d = some (lI (stepP h f)) := by
  have hS := SL_val
  have hf := v.len
  have hc := cand_len h f
  unfold g_burnt_so_far_b1
  have e1 : enS (tI h) = some (enumD (iL h)) := rfl
  have key := filS_enum (f := fun x9 x10 => ((some x9).bind fun x11 => (some (lI f)).bind fun x12 => cmpD .notin x11 x12).bind fun b21 => if b21 then (((some x10).bind fun x13 => (some (PyData.int 1)).bind fun x14 => addS x13 x14).bind fun x16 => ((some (lI f)).bind fun x15 => biS .len [x15]).bind fun x17 => addS x16 x17).bind fun x19 => ((some (tI h)).bind fun x18 => biS .len [x18]).bind fun x20 => cmpD .ge x19 x20 else some false)
    (p := fun (k x : Int) => !decide (k ∈ f) && decide ((h.length : Int) ≤ x + 1 + f.length)) (l := h) (by omega) (fun i hi => by
      simp only [Option.bind_some, cmp_notin, addS_int, len_lI, len_tI, cmp_ge, addS]
      by_cases q : (i : Int) ∈ f <;> simp [q])
  rw [cand_eq] at key
  simp only [Option.bind_some] at key
  simp only [Option.bind_some, e1, key, Option.map_some, intS_int]
  have e2 : sliS (lI (cand h f)) .none (.int 1) = some (lI ((cand h f).take 1)) := by
    show (sliD (lI (cand h f)) .none (.int 1)).bind rd = _
    simp only [sliD, cut, sIx]
    rw [if_neg (by omega)]
    simp only [Option.map_some, Option.bind_some, rd, List.drop_zero, iL_len]
    congr 2
    rw [show min (Int.toNat 1) (cand h f).length - 0 = min 1 (cand h f).length from rfl]
    unfold iL
    rw [← List.map_take]
    congr 1
    rcases Nat.lt_or_ge (cand h f).length 1 with q | q
    · rw [Nat.min_eq_right (by omega), List.take_of_length_le (Nat.le_refl _), List.take_of_length_le (by omega)]
    · rw [Nat.min_eq_left q]
  rw [e2]
  simp only [Option.bind_some]
  rw [extS_l (by rw [iL_len, iL_len, List.length_take]; omega)]
  simp [stepP, iL_app]
theorem lburnt_b1 {f : List Int} (v : Valid h f) (d : D) : g__law_burnt_b1 (tI h) (lI f) d = some (lI (stepL h f)) := by
  have hS := SL_val
  have hf := v.len
  have hc := cand_len h f
  unfold g__law_burnt_b1
  have key := filS_int (c := fun d7 => ((some d7).bind fun x8 => (some (lI f)).bind fun x9 => cmpD .notin x8 x9).bind fun b20 => if b20 then ((((some (tI h)).bind fun x10 => (some d7).bind fun x11 => idxD x10 x11).bind fun x12 => (some (PyData.int 1)).bind fun x13 => addS x12 x13).bind fun x15 => ((some (lI f)).bind fun x14 => biS .len [x14]).bind fun x16 => addS x15 x16).bind fun x18 => ((some (tI h)).bind fun x17 => biS .len [x17]).bind fun x19 => cmpD .ge x18 x19 else some false)
    (p := fun (k : Int) => !decide (k ∈ f) && decide ((h.length : Int) ≤ at_ h k + 1 + f.length)) (l := rgL h.length) (by rw [rgL_len]; omega) (fun i hi => by
      have hi := rgL_mem.mp hi
      simp only [Option.bind_some, cmp_notin, addS_int, len_lI, len_tI, cmp_ge, addS, idx_int hi.1 hi.2]
      by_cases q : i ∈ f <;> simp [q])
  simp only [Option.bind_some, len_tI] at key
  simp only [Option.bind_some, len_tI, rg1S_nat (show h.length ≤ SL by omega), key, Option.map_some, negS_int, intS_int]
  have e2 : sliS (lI (cand h f)) (.int (-1)) .none = some (lI ((cand h f).drop ((cand h f).length - 1))) := by
    show (sliD (lI (cand h f)) (.int (-1)) .none).bind rd = _
    simp only [sliD, cut, sIx]
    rw [if_pos (by omega)]
    simp only [Option.map_some, Option.bind_some, rd, iL_len]
    congr 2
    unfold iL
    rw [show (-1 + ((cand h f).length : Int)).toNat = (cand h f).length - 1 by omega]
    rw [List.take_of_length_le (by rw [List.length_drop, List.length_map]; omega), List.map_drop]
  rw [show ((rgL h.length).filter fun (k : Int) => !decide (k ∈ f) && decide ((h.length : Int) ≤ at_ h k + 1 + f.length)) = cand h f from rfl, e2]
  simp only [Option.bind_some, addS]
  rw [addS_l (by rw [iL_len, iL_len, List.length_drop]; omega)]
  simp [stepL, iL_app]
omit hm in
theorem forS_iter {F : D → D → Option D} {s : List Int → List Int} (hs : Step h s) (hF : ∀ f, Valid h f → ∀ d, F d (lI f) = some (lI (s f))) : ∀ (l : List D) (f : List Int), Valid h f → forS F l (lI f) = some (lI (iter s l.length f))
  | [], f, v => rfl
  | d :: l, f, v => by
    unfold forS
    rw [hF f v d]
    exact forS_iter hs hF l (s f) (step_valid hs v)
def burntP (h : List Int) : List Int := iter (stepP h) h.length []
def burntL (h : List Int) : List Int := iter (stepL h) h.length []
theorem burnt_eq : g_burnt_so_far (tI h) = some (lI (burntP h)) := by
  unfold g_burnt_so_far
  have := forS_iter (F := fun d3 s2 => g_burnt_so_far_b1 (tI h) s2 d3) (stepP_step h) (fun f v d => burnt_b1 hm v d) (iL h) [] (Valid.nil h)
  simp only [Option.map_some, Option.bind_some, seq_t]
  rw [show (PyData.list [] : D) = lI [] from rfl, this, iL_len]
  rfl
theorem lburnt_eq : g__law_burnt (tI h) = some (lI (burntL h)) := by
  unfold g__law_burnt
  have := forS_iter (F := fun d3 s2 => g__law_burnt_b1 (tI h) s2 d3) (stepL_step h) (fun f v d => lburnt_b1 hm v d) (iL h) [] (Valid.nil h)
  simp only [Option.map_some, Option.bind_some, seq_t]
  rw [show (PyData.list [] : D) = lI [] from rfl, this, iL_len]
  rfl
omit hm in
theorem burntP_ok (h : List Int) : Valid h (burntP h) ∧ ((burntP h).length = h.length ∨ cand h (burntP h) = []) := by
  have := iter_ok (stepP_step h) h.length [] (Valid.nil h)
  simpa [burntP] using this
omit hm in
theorem burntL_ok (h : List Int) : Valid h (burntL h) ∧ ((burntL h).length = h.length ∨ cand h (burntL h) = []) := by
  have := iter_ok (stepL_step h) h.length [] (Valid.nil h)
  simpa [burntL] using this
omit hm in
theorem burns_iff (h : List Int) : (burntP h).length = h.length ↔ (burntL h).length = h.length := by
  obtain ⟨v1, q1⟩ := burntP_ok h
  obtain ⟨v2, q2⟩ := burntL_ok h
  constructor
  · intro e
    rcases q2 with q2 | q2
    · exact q2
    · exact burn_all v1 e v2 q2
  · intro e
    rcases q1 with q1 | q1
    · exact q1
    · exact burn_all v2 e v1 q1
def paper (h : List Int) : D := if (burntP h).length = h.length then .tuple [.str "burns", tI (burntP h)] else .tuple [.str "lot", tI (rest h (burntP h))]
theorem paper_eq : g_heap_paper (tI h) = some (paper h) := by
  have hS := SL_val
  unfold g_heap_paper
  have key := filS_int (c := fun d27 => (some d27).bind fun x28 => (some (lI (burntP h))).bind fun x29 => cmpD .notin x28 x29) (p := fun k => !decide (k ∈ burntP h)) (l := rgL h.length) (by rw [rgL_len]; omega) (fun i hi => by
      simp only [Option.bind_some, cmp_notin])
  simp only [Option.bind_some] at key
  simp only [Option.bind_some, burnt_eq hm, len_tI, len_lI, cmp_eqi, tup_l, rg1S_nat (show h.length ≤ SL by omega), key, Option.map_some]
  unfold paper
  by_cases q : (burntP h).length = h.length
  · simp [q]
  · have : ¬ ((burntP h).length : Int) = (h.length : Int) := by omega
    simp [q, this, rest]
end Kk22
namespace Kk22
open PySem Pm K22m
def isI : D → Bool
  | .int _ => true
  | _ => false
def nn : D → Bool
  | .int i => decide (0 ≤ i)
  | _ => false
def numsB : D → Bool
  | .tuple ds => ds.all nn
  | _ => false
theorem isint_eq (d : D) : g__law_is_int d = some (.bool (isI d)) := by cases d <;> rfl
theorem whole_eq (d : D) : g_is_whole d = some (.bool (isI d)) := by cases d <;> rfl
theorem bools_map (p : D → Bool) : ∀ ds : List D, boolsL (ds.map fun d => .bool (p d)) = some (ds.map p)
  | [] => rfl
  | d :: ds => by simp only [List.map_cons, boolsL, bools_map p ds]; rfl
def short (b : D) : Prop := ∀ ds, b = .tuple ds → ds.length ≤ 1000 ∧ ∀ d ∈ ds, d.canLay0 = true ∧ d.depth ≤ 60
theorem nums_eq {b : D} (hb : short b) : g_are_numbers b = some (.bool (numsB b)) := by
  have hS := SL_val
  cases b with
  | tuple ds =>
    obtain ⟨h1, h2⟩ := hb ds rfl
    unfold g_are_numbers
    have key := mapS_eq (g := fun d1 => ((((((some d1).bind fun x2 => g_is_whole x2).bind boolS)).bind fun b5 => if b5 then (some d1).bind fun x3 => (some (PyData.int 0)).bind fun x4 => cmpD .ge x3 x4 else some false).map PyData.bool)) (h := fun d => .bool (nn d)) (xs := ds) (by omega) (fun d hd => by
      simp only [Option.bind_some, whole_eq, boolS_b]
      cases d <;> rfl)
    simp only [Option.bind_some] at key
    simp only [Option.bind_some, isOf, isT, tag, isTs, seq_t, key, Option.map_some, allS, bools_map]
    simp [numsB, List.all_map, Function.comp_def]
  | _ => rfl
theorem nums_int : ∀ {ds : List D}, ds.all nn = true → ∃ t : List Int, ds = iL t ∧ ∀ k ∈ t, 0 ≤ k
  | [], _ => ⟨[], rfl, by simp⟩
  | d :: ds, e => by
    rw [List.all_cons, Bool.and_eq_true] at e
    obtain ⟨t, rfl, ht⟩ := nums_int e.2
    cases d with
    | int i =>
      refine ⟨i :: t, rfl, fun k hk => ?_⟩
      rcases List.mem_cons.mp hk with rfl | hk
      · simpa [nn] using e.1
      · exact ht k hk
    | _ => simp [nn] at e
theorem nn_iL (t : List Int) : (iL t).all nn = decide (∀ k ∈ t, 0 ≤ k) := by
  induction t with
  | nil => rfl
  | cons i t ih => rw [iL_cons, List.all_cons, ih]; by_cases q : 0 ≤ i <;> simp [nn, q]
def inR (m : Int) : D → Bool
  | .int i => decide (0 ≤ i) && decide (i < m)
  | _ => false
theorem inR_int {m : Int} : ∀ {ds : List D}, ds.all (inR m) = true → ∃ t : List Int, ds = iL t ∧ ∀ k ∈ t, 0 ≤ k ∧ k < m
  | [], _ => ⟨[], rfl, by simp⟩
  | d :: ds, e => by
    rw [List.all_cons, Bool.and_eq_true] at e
    obtain ⟨t, rfl, ht⟩ := inR_int e.2
    cases d with
    | int i =>
      refine ⟨i :: t, rfl, fun k hk => ?_⟩
      rcases List.mem_cons.mp hk with rfl | hk
      · simpa [inR] using e.1
      · exact ht k hk
    | _ => simp [inR] at e
def form : D := .tuple [.str "form"]
theorem intsL_some : ∀ {ds : List D} {t : List Int}, intsL ds = some t → ds = iL t
  | [], t, e => by cases e; rfl
  | d :: ds, t, e => by
    cases d <;> simp only [intsL] at e <;> (try cases e)
    obtain ⟨r, e2, rfl⟩ := Option.map_eq_some_iff.mp e
    rw [intsL_some e2]; rfl
/-- the words -/
inductive HA : D → Prop
  | b : HA (.str "burns")
  | l : HA (.str "lot")
  | o {a} : reprOk a = true → a.shown ≠ "'burns'" → a.shown ≠ "'lot'" → a ≠ .str "burns" → a ≠ .str "lot" → HA a
/-- the first place of some -/
def firstD (w : Str) : List Int → D
  | [] => .none
  | k :: _ => .tuple [.str w, .int k]
/-- the wrong places of a burning order -/
def wrongB (h t : List Int) : List Int := ((List.range t.length).filter fun (i : Nat) => decide (at_ h (t.getD i 0) + 1 + i < h.length)).map fun (i : Nat) => (i : Int)
def wrongL (h t : List Int) : List Int := t.filter fun k => decide ((t.length : Int) - 1 ≤ at_ h k)
/-- the fault of a pair -/
def up (t : List Int) : Bool := decide (t.Pairwise (· < ·))
def faultI (h : List Int) (a : D) (t : List Int) : D :=
  match a with
  | .str w => if w = "burns" then (if sortI t = rgL h.length then firstD "burns" (wrongB h t) else form) else if w = "lot" then (if t ≠ [] ∧ up t = true then firstD "lot" (wrongL h t) else form) else form
  | _ => form
def fault (h : List Int) (a b : D) : D :=
  match b with
  | .tuple ds => match intsL ds with
    | some t => if ∀ k ∈ t, 0 ≤ k ∧ k < h.length then faultI h a t else form
    | none => form
  | _ => form
variable {h : List Int} (hm : h.length ≤ 60)
theorem idx0 (a b : D) : idxD (.tuple [a, b]) (.int 0) = some a := rfl
theorem idx1 (a b : D) : idxD (.tuple [a, b]) (.int 1) = some b := rfl
theorem first_eq (w : Str) (l : List Int) : ((cmpD .ne (lI l) (.list [])).bind fun b => if b then (((idxD (lI l) (.int 0)).bind fun x => some [x]).bind fun y => some (PyData.str w :: y)).map PyData.tuple else some PyData.none) = some (firstD w l) := by
  rw [show (PyData.list [] : D) = lI [] from rfl, cmp_nelI]
  cases l with
  | nil => rfl
  | cons k r =>
    have e : idxD (lI (k :: r)) (.int 0) = some (.int k) := idx_lI (l := k :: r) (i := 0) (by simp)
    rw [e]
    simp [firstD]
include hm
/-- burning orders -/
theorem wrongB_key {t : List Int} (ht : ∀ k ∈ t, 0 ≤ k ∧ k < h.length) (hl : t.length ≤ 1000) : filS (fun d => un2 d fun x55 x56 => (((idxD (tI h) x56).bind fun x59 => addS x59 (PyData.int 1)).bind fun x61 => addS x61 x55).bind fun x63 => cmpD .lt x63 (PyData.int h.length)) (fun d => un2 d fun x _ => some x) (enumD (iL t)) = some (iL (wrongB h t)) := by
  have hS := SL_val
  exact filS_enum (p := fun i k => decide (at_ h k + 1 + i < h.length)) (l := t) (by omega) (fun i hi => by
      have hk := ht t[i] (List.getElem_mem hi)
      simp only [Option.bind_some, idx_int hk.1 hk.2, addS, addS_int, cmp_lt])
theorem k3_eq {t : List Int} (ht : ∀ k ∈ t, 0 ≤ k ∧ k < h.length) (hl : t.length ≤ 1000) : g__law_fault_k3 (tI h) (.int h.length) (tI t) = some (firstD "burns" (wrongB h t)) := by
  unfold g__law_fault_k3
  have e1 : enS (tI t) = some (enumD (iL t)) := rfl
  simp only [Option.bind_some, e1, wrongB_key hm ht hl, Option.map_some]
  exact first_eq "burns" (wrongB h t)
theorem k5_eq {t : List Int} (ht : ∀ k ∈ t, 0 ≤ k ∧ k < h.length) (hl : t.length ≤ 1000) : g__law_fault_k5 (tI h) (tI t) = some (firstD "lot" (wrongL h t)) := by
  have hS := SL_val
  unfold g__law_fault_k5
  have key := filS_int (c := fun d90 => ((some (tI h)).bind fun x91 => (some d90).bind fun x92 => idxD x91 x92).bind fun x96 => (((some (tI t)).bind fun x93 => biS .len [x93]).bind fun x94 => (some (PyData.int 1)).bind fun x95 => subS x94 x95).bind fun x97 => cmpD .ge x96 x97)
    (p := fun k => decide ((t.length : Int) - 1 ≤ at_ h k)) (l := t) (by omega) (fun k hk => by
      have hk := ht k hk
      simp only [Option.bind_some, idx_int hk.1 hk.2, len_tI, subS, subS_int, cmp_ge])
  simp only [Option.bind_some, len_tI] at key
  simp only [Option.bind_some, seq_t, len_tI, key, Option.map_some]
  exact first_eq "lot" (wrongL h t)
theorem jk4_eq {t : List Int} (ht : ∀ k ∈ t, 0 ≤ k ∧ k < h.length) (hl : t.length ≤ 1000) : g_judge_heap_k4 (tI h) (tI t) = some (firstD "lot" (wrongL h t)) := k5_eq hm ht hl
omit hm in
theorem pairS (k : Int) : (((some (PyData.int k)).bind fun x80 => ((some (PyData.int 0)).bind fun x78 => (some []).bind fun x79 => some (x78 :: x79)).bind fun x81 => some (x80 :: x81)).map PyData.tuple) = some (.tuple [.int k, .int 0]) := rfl
omit hm in
theorem kAdd_new {ks : List L2.Key} {k : L2.Key} (h : k ∉ ks) : kAdd ks k = ks ++ [k] := by
  unfold kAdd
  rw [if_neg]
  rw [List.any_eq_true]
  rintro ⟨x, hx, e⟩
  exact h (of_decide_eq_true e ▸ hx)
omit hm in
theorem kAdd_old {ks : List L2.Key} {k : L2.Key} (h : k ∈ ks) : kAdd ks k = ks := by
  unfold kAdd
  rw [if_pos]
  rw [List.any_eq_true]
  exact ⟨k, h, decide_eq_true rfl⟩
/-- the numbers of some, each once, in their sequence -/
def onceI : List Int → List Int → List Int
  | acc, [] => acc
  | acc, k :: r => onceI (if k ∈ acc then acc else acc ++ [k]) r
omit hm in
theorem once_keys : ∀ (t acc : List Int), (t.map Sum.inl).foldl kAdd (acc.map Sum.inl : List L2.Key) = (onceI acc t).map Sum.inl
  | [], acc => rfl
  | k :: t, acc => by
    rw [List.map_cons, List.foldl_cons]
    unfold onceI
    by_cases q : k ∈ acc
    · rw [if_pos q, kAdd_old (List.mem_map.mpr ⟨k, q, rfl⟩)]; exact once_keys t acc
    · rw [if_neg q, kAdd_new (fun z => by obtain ⟨x, hx, e⟩ := List.mem_map.mp z; cases e; exact q hx)]
      have := once_keys t (acc ++ [k])
      rw [List.map_append] at this
      exact this
omit hm in
theorem once_nd : ∀ (t acc : List Int), acc.Nodup → (onceI acc t).Nodup
  | [], acc, h => h
  | k :: t, acc, h => by
    unfold onceI
    by_cases q : k ∈ acc
    · rw [if_pos q]; exact once_nd t acc h
    · rw [if_neg q]
      refine once_nd t _ ?_
      rw [List.nodup_append]
      refine ⟨h, by simp, fun a ha b hb e => ?_⟩
      simp at hb; subst hb; subst e; exact q ha
omit hm in
theorem once_mem {x : Int} : ∀ (t acc : List Int), x ∈ onceI acc t ↔ x ∈ acc ∨ x ∈ t
  | [], acc => by simp [onceI]
  | k :: t, acc => by
    unfold onceI
    by_cases q : k ∈ acc
    · rw [if_pos q, once_mem t acc, List.mem_cons]
      constructor
      · rintro (h | h)
        · exact .inl h
        · exact .inr (.inr h)
      · rintro (h | rfl | h)
        · exact .inl h
        · exact .inl q
        · exact .inr h
    · rw [if_neg q, once_mem t _, List.mem_append, List.mem_cons]
      simp [or_assoc]
omit hm in
theorem once_up : ∀ (t acc : List Int), (acc ++ t).Nodup → onceI acc t = acc ++ t
  | [], acc, _ => by simp [onceI]
  | k :: t, acc, h => by
    unfold onceI
    have q : k ∉ acc := by
      rw [List.nodup_append] at h
      exact fun z => h.2.2 k z k List.mem_cons_self rfl
    rw [if_neg q, once_up t (acc ++ [k]) (by simpa using h)]
    simp
omit hm in
theorem pairKs_eq : ∀ t : List Int, pairKs (t.map fun k => PyData.tuple [.int k, .int 0]) = some (t.map Sum.inl)
  | [] => rfl
  | k :: t => by
    rw [List.map_cons]
    unfold pairKs
    simp only [keyOf, Option.bind_some, pairKs_eq t, Option.map_some, List.map_cons]
omit hm in
theorem keysI_eq : ∀ t : List Int, keysI (t.map Sum.inl) = some t
  | [] => rfl
  | k :: t => by rw [List.map_cons]; unfold keysI; rw [keysI_eq t]; rfl
omit hm in
theorem up_iff {t : List Int} : sortI (onceI [] t) = t ↔ up t = true := by
  unfold up
  rw [decide_eq_true_eq]
  have nd := once_nd t [] List.nodup_nil
  constructor
  · intro e
    have s := sortI_sorted (onceI [] t)
    have n := (sortI_perm (onceI [] t)).nodup_iff.mpr nd
    rw [e] at s n
    have := s.and n
    exact this.imp fun ⟨a, b⟩ => by omega
  · intro e
    have n : t.Nodup := e.imp fun h => by omega
    rw [once_up t [] (by simpa using n)]
    simp only [List.nil_append]
    exact sort_eq_of (List.Perm.refl _) (e.imp fun h => by omega)
theorem k4_eq {t : List Int} (ht : ∀ k ∈ t, 0 ≤ k ∧ k < h.length) (hl : t.length ≤ 1000) : g__law_fault_k4 (tI h) (tI t) = some (if t ≠ [] ∧ up t = true then firstD "lot" (wrongL h t) else form) := by
  have hS := SL_val
  unfold g__law_fault_k4
  have key : mapS (fun d77 => ((some d77).bind fun x80 => ((some (PyData.int 0)).bind fun x78 => (some []).bind fun x79 => some (x78 :: x79)).bind fun x81 => some (x80 :: x81)).map PyData.tuple) (iL t) = some ((iL t).map fun d => .tuple [d, .int 0]) := mapS_eq (by rw [iL_len]; omega) fun d hd => rfl
  have e2 : ((iL t).map fun d => PyData.tuple [d, .int 0]) = t.map fun k => PyData.tuple [.int k, .int 0] := by simp [iL, Function.comp_def]
  have few : (onceI [] t).length < 64 := by
    have := (once_nd t [] List.nodup_nil).length_le_of_subset (l₂ := rgL h.length) fun x hx => by
      rcases (once_mem t []).mp hx with q | q
      · simp at q
      · exact rgL_mem.mpr (ht x q)
    rw [rgL_len] at this
    omega
  have e3 : dofS true (.list (t.map fun k => PyData.tuple [.int k, .int 0])) = some (lI (sortI (onceI [] t))) := by
    unfold dofS dofD
    simp only [pairKs_eq, Option.bind_some]
    have := once_keys t []
    simp only [List.map_nil] at this
    rw [show kSet (t.map Sum.inl) = (t.map Sum.inl).foldl kAdd [] from rfl, this, keysI_eq]
    simp only [Option.bind_some, if_pos few]
    rfl
  simp only [Option.bind_some, Option.map_some] at key
  simp only [Option.bind_some, Option.map_some, seq_t, key, e2, e3, list_t]
  rw [show (PyData.tuple [] : D) = tI [] from rfl, cmp_eqtI]
  simp only [Option.bind_some]
  by_cases q : t = []
  · subst q; rfl
  · rw [show (PyData.list (iL t) : D) = lI t from rfl]
    simp only [q, decide_false, Bool.false_eq_true, if_false, cmp_nelI, Option.bind_some]
    by_cases u : up t = true
    · have e4 := (up_iff (t := t)).mpr u
      simp [e4, u, k5_eq hm ht hl, q]
    · have e4 : ¬ t = sortI (onceI [] t) := fun z => u (up_iff.mp z.symm)
      simp [e4, u, form]
omit hm in
theorem repr_eq {a : D} (h : reprOk a = true) : biS .repr [a] = some (.str a.shown) := by
  show (reprD [a]).bind rd = _
  rw [reprD_of h]; rfl
omit hm in
theorem in_words (s : Str) : cmpD .notin (.str s) (.tuple [.str "'burns'", .str "'lot'"]) = some (!(("'burns'" : Str) == s || ("'lot'" : Str) == s)) := by
  simp [cmpD, inD, flatD, PyData.eqv]
omit hm in
theorem intsL_iL (t : List Int) : intsL (iL t) = some t := intsL_map t
omit hm in
theorem fault_out {a b : D} {ds : List D} (hb : b = .tuple ds) (hi : ds.all (inR h.length) = false) : fault h a b = form := by
  subst hb
  unfold fault
  simp only
  split
  · rename_i t e
    have : ds = iL t := intsL_some e
    subst this
    rw [if_neg]
    intro q
    have : (iL t).all (inR h.length) = true := by
      rw [List.all_eq_true]
      intro d hd
      obtain ⟨k, hk, rfl⟩ := List.mem_map.mp hd
      have := q k hk
      simp [inR, this]
    rw [this] at hi
    cases hi
  · rfl
omit hm in
theorem fault_in {a : D} {t : List Int} (ht : ∀ k ∈ t, 0 ≤ k ∧ k < h.length) : fault h a (tI t) = faultI h a t := by
  unfold fault
  simp only [intsL_iL]
  rw [if_pos ht]
omit hm in
theorem form_eq : (((some (PyData.str "form")).bind fun x86 => (some []).bind fun x87 => some (x86 :: x87)).map PyData.tuple) = some form := rfl
theorem k2_eq {a : D} {t : List Int} (ha : HA a) (hw : a = .str "burns" ∨ a = .str "lot") (ht : ∀ k ∈ t, 0 ≤ k ∧ k < h.length) (hl : t.length ≤ 1000) {v : D} (hv : idxD v (.int 0) = some a) : g__law_fault_k2 (tI h) v (.int h.length) (tI t) = some (faultI h a t) := by
  have hS := SL_val
  unfold g__law_fault_k2
  simp only [Option.bind_some, hv]
  rcases hw with rfl | rfl
  · have hx : (iL (rgL h.length)).length ≤ SL := by rw [iL_len, rgL_len]; omega
    simp only [cmp_eqs, Option.bind_some, BEq.rfl, if_true, sort_tI, rg1S_nat (show h.length ≤ SL by omega), List.append_nil, shortS_eq hx, Option.map_some]
    rw [show (PyData.list (iL (rgL h.length)) : D) = lI (rgL h.length) from rfl, cmp_nelI]
    simp only [Option.bind_some]
    by_cases q : sortI t = rgL h.length
    · simp [q, k3_eq hm ht hl, faultI]
    · simp [q, faultI, form]
  · have e : (("lot" : Str) == ("burns" : Str)) = false := by decide +kernel
    simp only [cmp_eqs, Option.bind_some, e, Bool.false_eq_true, if_false, k4_eq hm ht hl]
    have e2 : ¬ (("lot" : Str) = ("burns" : Str)) := by decide +kernel
    simp [faultI, e2]
def faultV (h : List Int) : D → D
  | .tuple [a, b] => fault h a b
  | _ => form
def okV (v : D) : Prop := ∀ a b, v = .tuple [a, b] → HA a ∧ short b
theorem lfault_eq {v : D} (hv : okV v) : g__law_fault (tI h) v = some (faultV h v) := by
  have hS := SL_val
  unfold g__law_fault
  simp only [Option.bind_some, len_tI]
  cases v with
  | tuple ds =>
    have e0 : isOf .istuple (.tuple ds) = some true := rfl
    simp only [e0, Option.map_some, Option.bind_some, Bool.not_true, Bool.false_eq_true, if_false, len_t, cmp_nei]
    match ds with
    | [] => rfl
    | [a] => rfl
    | a :: b :: c :: r =>
      have : (((a :: b :: c :: r).length : Int) == 2) = false := by simp; omega
      simp only [this, Bool.not_false, if_true, Option.bind_some, Option.map_some]
      rfl
    | [a, b] =>
      obtain ⟨ha, hb⟩ := hv a b rfl
      have e1 : ((([a, b] : List D).length : Int) == 2) = true := rfl
      simp only [e1, Bool.not_true, Bool.false_eq_true, if_false, idx0, Option.bind_some]
      have main : ∀ s : Str, (("'burns'" : Str) == s || ("'lot'" : Str) == s) = true → (a = .str "burns" ∨ a = .str "lot") → g__law_fault_k1 (tI h) (.tuple [a, b]) (.int h.length) = some (fault h a b) := fun s _ hw => by
        unfold g__law_fault_k1
        simp only [idx1, Option.bind_some]
        cases b with
        | tuple ds =>
          obtain ⟨h1, h2⟩ := hb ds rfl
          have e2 : isOf .istuple (.tuple ds) = some true := rfl
          have key := filS_eq (c := fun d24 => (((((some d24).bind fun x25 => g__law_is_int x25).bind boolS)).map (!·)).bind fun b30 => if b30 then some true else ((some (PyData.int 0)).bind fun x28 => (some d24).bind fun x29 => (cmpD .le x28 x29).bind fun b27 => if b27 then (some (PyData.int h.length)).bind fun x26 => cmpD .lt x29 x26 else some false).map (!·)) (g := fun d => some d) (p := fun d => !inR h.length d) (h := id) (xs := ds) (by omega) (fun d hd => by
            simp only [Option.bind_some, isint_eq, boolS_b, Option.map_some]
            cases d <;> try rfl
            rename_i i
            simp only [isI, Bool.not_true, Bool.false_eq_true, if_false, cmp_le, cmp_lt, Option.bind_some, inR]
            by_cases q : 0 ≤ i <;> simp [q]) (fun d hd _ => rfl)
          simp only [Option.bind_some] at key
          simp only [e2, Option.map_some, Option.bind_some, Bool.not_true, Bool.false_eq_true, if_false, seq_t, key, List.map_id]
          rw [ne_nil (fun d hd => h2 d (List.mem_filter.mp hd).1)]
          simp only [Option.bind_some]
          cases q : ds.all (inR h.length) with
          | true =>
            have e3 : (ds.filter fun d => !inR h.length d) = [] := by
              rw [List.filter_eq_nil_iff]
              intro d hd
              have := List.all_eq_true.mp q d hd
              simp [this]
            obtain ⟨t, rfl, ht⟩ := inR_int q
            simp only [e3, List.isEmpty_nil, Bool.not_true, Bool.false_eq_true, if_false]
            rw [fault_in ht]
            exact k2_eq hm ha hw ht (by rw [iL_len] at h1; exact h1) (idx0 a _)
          | false =>
            have e3 : (ds.filter fun d => !inR h.length d).isEmpty = false := by
              rw [Bool.eq_false_iff]
              intro z
              rw [List.isEmpty_iff, List.filter_eq_nil_iff] at z
              have : ds.all (inR h.length) = true := List.all_eq_true.mpr fun d hd => by have := z d hd; simpa using this
              rw [this] at q; cases q
            simp only [e3, Bool.not_false, if_true]
            rw [fault_out rfl q]
            rfl
        | _ => rfl
      show _ = some (fault h a b)
      cases ha with
      | b =>
        have e2 : biS .repr [PyData.str "burns"] = some (.str "'burns'") := by
          rw [repr_eq (by decide +kernel)]
          rw [show (PyData.str "burns" : D).shown = "'burns'" by decide +kernel]
        simp only [e2, Option.bind_some, Option.map_some, in_words, main "'burns'" (by decide +kernel) (.inl rfl)]
        rfl
      | l =>
        have e2 : biS .repr [PyData.str "lot"] = some (.str "'lot'") := by
          rw [repr_eq (by decide +kernel)]
          rw [show (PyData.str "lot" : D).shown = "'lot'" by decide +kernel]
        simp only [e2, Option.bind_some, Option.map_some, in_words, main "'lot'" (by decide +kernel) (.inr rfl)]
        have : (("'burns'" : Str) == ("'lot'" : Str)) = false := by decide +kernel
        simp [this]
      | o h1 h2 h3 h4 h5 =>
        have e3 : (("'burns'" : Str) == a.shown || ("'lot'" : Str) == a.shown) = false := by
          rw [Bool.or_eq_false_iff]
          exact ⟨beq_eq_false_iff_ne.mpr (Ne.symm h2), beq_eq_false_iff_ne.mpr (Ne.symm h3)⟩
        simp only [repr_eq h1, Option.bind_some, Option.map_some, in_words, e3]
        have : fault h a b = form := by
          unfold fault
          split
          · split
            · split
              · unfold faultI
                split
                · rename_i w _
                  rw [if_neg (fun z => h4 (by rw [z])), if_neg (fun z => h5 (by rw [z]))]
                · rfl
              · rfl
            · rfl
          · rfl
        rw [this]; rfl
  | _ => rfl
end Kk22
namespace Kk22
open PySem Pm K22m
theorem pw_succ : ∀ (t : List Int), t.Pairwise (· < ·) ↔ ∀ i (hi : i + 1 < t.length), t[i] < t[i + 1]
  | [] => by simp
  | [x] => by simp
  | x :: y :: r => by
    have ih := pw_succ (y :: r)
    constructor
    · intro q i hi
      exact List.pairwise_iff_getElem.mp q i (i + 1) (by omega) hi (by omega)
    · intro q
      have h1 := ih.mpr fun i hi => by
        have := q (i + 1) (by simp at hi ⊢; omega)
        simpa using this
      have h0 := q 0 (by simp)
      simp -implicitDefEqProofs only [List.getElem_cons_zero, List.getElem_cons_succ] at h0
      refine List.pairwise_cons.mpr ⟨fun z hz => ?_, h1⟩
      rcases List.mem_cons.mp hz with rfl | hz
      · exact h0
      · have := (List.pairwise_cons.mp h1).1 z hz; omega
variable {h : List Int} (hm : h.length ≤ 60)
theorem maxI_lt : ∀ (r : List Int) (m n : Int), maxI m r < n ↔ m < n ∧ ∀ k ∈ r, k < n
  | [], m, n => by simp [maxI]
  | x :: r, m, n => by
    unfold maxI
    rw [maxI_lt r _ n]
    constructor
    · rintro ⟨h1, h2⟩
      split at h1
      · exact ⟨by omega, fun k hk => by rcases List.mem_cons.mp hk with rfl | hk; exact h1; exact h2 k hk⟩
      · exact ⟨h1, fun k hk => by rcases List.mem_cons.mp hk with rfl | hk; omega; exact h2 k hk⟩
    · rintro ⟨h1, h2⟩
      refine ⟨?_, fun k hk => h2 k (List.mem_cons_of_mem _ hk)⟩
      have := h2 x List.mem_cons_self
      split
      · exact this
      · exact h1
theorem max1_eq (x : Int) (r : List Int) : biS .max1 [tI (x :: r)] = some (.int (maxI x r)) := by
  show (max1D [tI (x :: r)]).bind rd = _
  unfold max1D
  simp -implicitDefEqProofs only [show intsL (iL (x :: r)) = some (x :: r) from intsL_map _]
  rfl
def ladderI (n : Nat) : List Int := (List.range ((n : Int) - 1).toNat).map fun (i : Nat) => 1 + (i : Int)
theorem ladderI_len (n : Nat) : (ladderI n).length = n - 1 := by unfold ladderI; rw [List.length_map, List.length_range]; omega
theorem getD_at {t : List Int} {i : Nat} (hi : i < t.length) : t.getD i 0 = t[i] := by simp [hi]
theorem ladderI_mem {n : Nat} {x : Int} : x ∈ ladderI n ↔ 1 ≤ x ∧ x < n := by
  unfold ladderI
  rw [List.mem_map]
  constructor
  · rintro ⟨k, hk, rfl⟩; have := List.mem_range.mp hk; omega
  · intro q; exact ⟨(x - 1).toNat, List.mem_range.mpr (by omega), by omega⟩
theorem ladderI_rg (n : Nat) : rangeD 1 n = iL (ladderI n) := by
  unfold rangeD ladderI iL
  rw [List.map_map]; rfl
include hm
theorem jk3_eq {t : List Int} (ht : ∀ k ∈ t, 0 ≤ k ∧ k < h.length) (hl : t.length ≤ 1000) : g_judge_heap_k3 (tI h) (tI t) = some (if up t = true then firstD "lot" (wrongL h t) else form) := by
  have hS := SL_val
  unfold g_judge_heap_k3
  have e1 : rg2S (.int 1) (.int t.length) = some (iL (ladderI t.length)) := by
    rw [rg2S_gen (by omega) (by omega) (by omega) (by omega) (by omega), ladderI_rg]
  have key := filS_int (c := fun d74 => ((some (tI t)).bind fun x75 => (some d74).bind fun x76 => idxD x75 x76).bind fun x81 => ((some (tI t)).bind fun x79 => ((some d74).bind fun x77 => (some (PyData.int 1)).bind fun x78 => subS x77 x78).bind fun x80 => idxD x79 x80).bind fun x82 => cmpD .le x81 x82)
    (p := fun i => decide (t.getD i.toNat 0 ≤ t.getD (i - 1).toNat 0)) (l := ladderI t.length) (by rw [ladderI_len]; omega) (fun i hi => by
      have hi := ladderI_mem.mp hi
      simp -implicitDefEqProofs only [Option.bind_some, subS, subS_int, idx_int (l := t) (k := i) (by omega) (by omega), idx_int (l := t) (k := i - 1) (by omega) (by omega), cmp_le])
  simp -implicitDefEqProofs only [Option.bind_some] at key
  simp -implicitDefEqProofs only [Option.bind_some, len_tI, e1, key, Option.map_some]
  rw [show (PyData.list [] : D) = lI [] from rfl, show ∀ l : List Int, (PyData.list (iL l) : D) = lI l from fun _ => rfl, cmp_nelI]
  simp -implicitDefEqProofs only [Option.bind_some]
  have hu : ((ladderI t.length).filter fun i => decide (t.getD i.toNat 0 ≤ t.getD (i - 1).toNat 0)) = [] ↔ up t = true := by
    unfold up
    rw [decide_eq_true_eq, List.filter_eq_nil_iff]
    constructor
    · intro q
      refine (pw_succ t).mpr ?_
      intro i hi
      have := q (i + 1 : Nat) (ladderI_mem.mpr ⟨by omega, by omega⟩)
      rw [decide_eq_true_eq] at this
      rw [show (((i + 1 : Nat) : Int)).toNat = i + 1 by omega, show (((i + 1 : Nat) : Int) - 1).toNat = i by omega] at this
      rw [getD_at hi, getD_at (show i < t.length by omega)] at this
      omega
    · intro q i hi
      have hi := ladderI_mem.mp hi
      have := (pw_succ t).mp q (i.toNat - 1) (by omega)
      rw [decide_eq_true_eq]
      rw [show (i - 1).toNat = i.toNat - 1 by omega]
      rw [getD_at (show i.toNat < t.length by omega), getD_at (show i.toNat - 1 < t.length by omega)]
      have e : i.toNat - 1 + 1 = i.toNat := by omega
      simp -implicitDefEqProofs only [e] at this
      omega
  by_cases u : up t = true
  · rw [hu.mpr u]
    simp [u, jk4_eq hm ht hl]
  · have : ¬ ((ladderI t.length).filter fun i => decide (t.getD i.toNat 0 ≤ t.getD (i - 1).toNat 0)) = [] := fun z => u (hu.mp z)
    rw [decide_eq_false this]
    simp [u, form]
theorem jk2_eq {a : D} {t : List Int} (ha : HA a) (ht : ∀ k ∈ t, 0 ≤ k) (hl : t.length ≤ 1000) {v : D} (hv : idxD v (.int 0) = some a) (hn : a ≠ .str "burns") (hs : isT "str" a = true) : g_judge_heap_k2 (tI h) v (tI t) = some (fault h a (tI t)) := by
  unfold g_judge_heap_k2
  simp -implicitDefEqProofs only [Option.bind_some, hv]
  cases a <;> try (cases hs; done)
  rename_i w
  rw [cmp_nes]
  simp -implicitDefEqProofs only [Option.bind_some]
  by_cases q : w = "lot"
  · subst q
    have ne : ¬ (("lot" : Str) = ("burns" : Str)) := by decide +kernel
    simp -implicitDefEqProofs only [BEq.rfl, Bool.not_true, Bool.false_eq_true, if_false, Option.map_some, Option.bind_some]
    rw [show (PyData.tuple [] : D) = tI [] from rfl, cmp_eqtI]
    simp -implicitDefEqProofs only [Option.bind_some]
    cases t with
    | nil =>
      simp -implicitDefEqProofs only [decide_true, if_true, Option.bind_some]
      rw [fault_in (by simp)]
      simp [faultI, ne, form]
    | cons x r =>
      have : ¬ (x :: r = []) := by simp
      simp -implicitDefEqProofs only [this, decide_false, Bool.false_eq_true, if_false, max1_eq, Option.bind_some, len_tI, cmp_ge]
      by_cases q : maxI x r < h.length
      · have ht2 : ∀ k ∈ x :: r, 0 ≤ k ∧ k < h.length := fun k hk => by
          have := (maxI_lt r x h.length).mp q
          refine ⟨ht k hk, ?_⟩
          rcases List.mem_cons.mp hk with rfl | hk
          · exact this.1
          · exact this.2 k hk
        have q2 : ¬ (h.length : Int) ≤ maxI x r := by omega
        simp -implicitDefEqProofs only [q2, decide_false, Bool.false_eq_true, if_false, jk3_eq hm ht2 hl]
        rw [fault_in ht2]
        simp [faultI, ne]
      · have q2 : (h.length : Int) ≤ maxI x r := by omega
        simp -implicitDefEqProofs only [q2, decide_true, if_true]
        have : fault h (.str "lot") (tI (x :: r)) = form := by
          unfold fault
          simp -implicitDefEqProofs only [intsL_iL]
          rw [if_neg]
          intro z
          exact q ((maxI_lt r x h.length).mpr ⟨(z x List.mem_cons_self).2, fun k hk => (z k (List.mem_cons_of_mem _ hk)).2⟩)
        rw [this]; rfl
  · have e : (w == ("lot" : Str)) = false := beq_eq_false_iff_ne.mpr q
    simp -implicitDefEqProofs only [e, Bool.not_false, if_true, Option.bind_some]
    have : fault h (.str w) (tI t) = form := by
      unfold fault
      simp -implicitDefEqProofs only [intsL_iL]
      split
      · simp -implicitDefEqProofs only [faultI]
        rw [if_neg (fun z => hn (by rw [z])), if_neg q]
      · rfl
    rw [this]; rfl
theorem jk1_eq {a : D} {t : List Int} (ha : HA a) (ht : ∀ k ∈ t, 0 ≤ k) (hl : t.length ≤ 1000) (hs : isT "str" a = true) : g_judge_heap_k1 (tI h) (.tuple [a, tI t]) = some (fault h a (tI t)) := by
  have hS := SL_val
  unfold g_judge_heap_k1
  simp -implicitDefEqProofs only [idx1, idx0, Option.bind_some]
  by_cases q : a = .str "burns"
  · subst q
    have hx : (iL (rgL h.length)).length ≤ SL := by rw [iL_len, rgL_len]; omega
    simp -implicitDefEqProofs only [cmp_eqs, BEq.rfl, Option.bind_some, if_true, sort_tI, len_tI, rg1S_nat (show h.length ≤ SL by omega), List.append_nil, shortS_eq hx, Option.map_some]
    rw [show (PyData.list (iL (rgL h.length)) : D) = lI (rgL h.length) from rfl, cmp_eqlI]
    simp -implicitDefEqProofs only [Option.bind_some]
    by_cases q : sortI t = rgL h.length
    · have ht2 : ∀ k ∈ t, 0 ≤ k ∧ k < h.length := fun k hk => rgL_mem.mp (q ▸ (sortI_perm t).mem_iff.mpr hk)
      simp -implicitDefEqProofs only [q, decide_true, if_true]
      rw [fault_in ht2]
      have e1 : enS (tI t) = some (enumD (iL t)) := rfl
      simp -implicitDefEqProofs only [Option.bind_some, e1, wrongB_key hm ht2 hl, Option.map_some]
      have e2 : faultI h (.str "burns") t = firstD "burns" (wrongB h t) := by
        simp [faultI, q]
      rw [e2]
      exact first_eq "burns" (wrongB h t)
    · simp -implicitDefEqProofs only [q, decide_false, Bool.false_eq_true, if_false]
      have ne : (("burns" : Str) == ("lot" : Str)) = false := by decide +kernel
      unfold g_judge_heap_k2
      simp -implicitDefEqProofs only [Option.bind_some, idx0, cmp_nes, ne, Bool.not_false, if_true]
      have : fault h (.str "burns") (tI t) = form := by
        unfold fault
        simp -implicitDefEqProofs only [intsL_iL]
        split
        · simp -implicitDefEqProofs only [faultI, if_true]
          rw [if_neg q]
        · rfl
      rw [this]; rfl
  · have e : cmpD .eq a (.str "burns") = some false := by
      cases a <;> try (cases hs; done)
      rename_i w
      rw [cmp_eqs]
      exact congrArg some (beq_eq_false_iff_ne.mpr fun z => q (by rw [z]))
    simp -implicitDefEqProofs only [e, Option.bind_some, Bool.false_eq_true, if_false]
    exact jk2_eq hm ha ht hl (idx0 a _) q hs
theorem judge_eq {v : D} (hv : okV v) : g_judge_heap (tI h) v = some (faultV h v) := by
  have hS := SL_val
  unfold g_judge_heap
  cases v with
  | tuple ds =>
    have e0 : isOf .istuple (.tuple ds) = some true := rfl
    simp -implicitDefEqProofs only [e0, Option.map_some, Option.bind_some, Bool.not_true, Bool.false_eq_true, if_false, len_t, cmp_nei]
    match ds with
    | [] => rfl
    | [a] => rfl
    | a :: b :: c :: r =>
      have : (((a :: b :: c :: r).length : Int) == 2) = false := by simp; omega
      simp -implicitDefEqProofs only [this, Bool.not_false, if_true, Option.bind_some, Option.map_some]
      rfl
    | [a, b] =>
      obtain ⟨ha, hb⟩ := hv a b rfl
      have e1 : ((([a, b] : List D).length : Int) == 2) = true := rfl
      simp -implicitDefEqProofs only [e1, Bool.not_true, Bool.false_eq_true, if_false, idx0, idx1, Option.bind_some, nums_eq hb, boolS_b, Option.map_some]
      have e2 : isOf .isstr a = some (isT "str" a) := rfl
      simp -implicitDefEqProofs only [e2, Option.map_some, Option.bind_some]
      show _ = some (fault h a b)
      have noStr : isT "str" a = false → fault h a b = form := fun z => by
        unfold fault
        split
        · split
          · split
            · unfold faultI
              split
              · cases z
              · rfl
            · rfl
          · rfl
        · rfl
      cases hs : isT "str" a with
      | false => simp -implicitDefEqProofs only [Bool.not_false, if_true]; rw [noStr hs]; rfl
      | true =>
        simp -implicitDefEqProofs only [Bool.not_true, Bool.false_eq_true, if_false]
        cases hn : numsB b with
        | false =>
          simp -implicitDefEqProofs only [Bool.not_false, if_true]
          have : fault h a b = form := by
            unfold fault
            split
            · rename_i ds
              split
              · rename_i t e
                split
                · rename_i q
                  exfalso
                  have e : ds = iL t := intsL_some e
                  subst e
                  have : (iL t).all nn = true := by rw [nn_iL]; exact decide_eq_true fun k hk => (q k hk).1
                  simp -implicitDefEqProofs only [numsB] at hn
                  rw [this] at hn; cases hn
                · rfl
              · rfl
            · rfl
          rw [this]; rfl
        | true =>
          simp -implicitDefEqProofs only [Bool.not_true, Bool.false_eq_true, if_false]
          cases b <;> try (cases hn; done)
          rename_i ds
          obtain ⟨t, rfl, ht⟩ := nums_int hn
          exact jk1_eq hm ha ht (by have := (hb _ rfl).1; rwa [iL_len] at this) hs
  | _ => rfl
/-- which word is right -/
theorem fault_none {v : D} (hv : faultV h v = .none) : ∃ w b, v = .tuple [.str w, b] ∧ ∃ b', paper h = .tuple [.str w, b'] := by
  unfold faultV at hv
  split at hv
  case h_2 => cases hv
  rename_i a b
  unfold fault at hv
  split at hv
  case h_2 => cases hv
  rename_i ds
  split at hv
  case h_2 => cases hv
  rename_i t e
  split at hv
  case isFalse => cases hv
  rename_i ht
  unfold faultI at hv
  split at hv
  case h_2 => cases hv
  rename_i w
  obtain ⟨vP, qP⟩ := burntP_ok h
  split at hv
  · rename_i hw
    subst hw
    split at hv
    case isFalse => cases hv
    rename_i hs
    refine ⟨_, _, rfl, ?_⟩
    have hp : t.Perm (rgL h.length) := hs ▸ (sortI_perm t).symm
    have wr : wrongB h t = [] := by
      cases q : wrongB h t with
      | nil => rfl
      | cons x r => rw [q] at hv; cases hv
    have val : Valid h t := ⟨hp.nodup_iff.mpr ((rgL_sorted _).imp fun h => by omega), ht, fun i hi => by
      unfold wrongB at wr
      rw [List.map_eq_nil_iff, List.filter_eq_nil_iff] at wr
      have := wr i (List.mem_range.mpr hi)
      simp -implicitDefEqProofs only [decide_eq_true_eq] at this
      have e : t.getD i 0 = t[i] := by simp [hi]
      rw [e] at this
      omega⟩
    have lt : t.length = h.length := by rw [hp.length_eq, rgL_len]
    have all : (burntP h).length = h.length := by
      rcases qP with q | q
      · exact q
      · exact burn_all val lt vP q
    unfold paper
    rw [if_pos all]
    exact ⟨_, rfl⟩
  · split at hv
    case isFalse => cases hv
    rename_i hw
    subst hw
    split at hv
    case isFalse => cases hv
    rename_i hq
    obtain ⟨ne, u⟩ := hq
    refine ⟨_, _, rfl, ?_⟩
    have wr : wrongL h t = [] := by
      cases q : wrongL h t with
      | nil => rfl
      | cons x r => rw [q] at hv; cases hv
    have few : ∀ k ∈ t, at_ h k < t.length - 1 := fun k hk => by
      unfold wrongL at wr
      rw [List.filter_eq_nil_iff] at wr
      have := wr k hk
      simp -implicitDefEqProofs only [decide_eq_true_eq] at this
      omega
    unfold up at u
    rw [decide_eq_true_eq] at u
    have not : ¬ (burntP h).length = h.length := fun z => lot_bars vP z (u.imp fun h => by omega) ne ht few
    unfold paper
    rw [if_neg not]
    exact ⟨_, rfl⟩
theorem paper_right : faultV h (paper h) = .none := by
  obtain ⟨vP, qP⟩ := burntP_ok h
  have rgnd : (rgL h.length).Nodup := (rgL_sorted _).imp fun h => by omega
  unfold paper
  by_cases q : (burntP h).length = h.length
  · rw [if_pos q]
    show fault h (.str "burns") (tI (burntP h)) = .none
    rw [fault_in vP.rg]
    have hp : (burntP h).Perm (rgL h.length) := by
      have sub : burntP h ⊆ rgL h.length := fun x hx => rgL_mem.mpr (vP.rg x hx)
      refine (List.perm_ext_iff_of_nodup vP.nd rgnd).mpr fun x => ⟨fun hx => sub hx, fun hx => ?_⟩
      apply Classical.byContradiction
      intro z
      have := (List.nodup_cons.mpr ⟨z, vP.nd⟩).length_le_of_subset (l₂ := rgL h.length) fun y hy => by
        rcases List.mem_cons.mp hy with rfl | hy
        · exact hx
        · exact sub hy
      rw [List.length_cons, rgL_len] at this
      omega
    have e := sort_eq_of hp ((rgL_sorted _).imp fun h => by omega)
    have wr : wrongB h (burntP h) = [] := by
      unfold wrongB
      rw [List.map_eq_nil_iff, List.filter_eq_nil_iff]
      intro i hi
      have hi := List.mem_range.mp hi
      have := vP.ok i hi
      have e : (burntP h).getD i 0 = (burntP h)[i] := by simp [hi]
      rw [e, decide_eq_true_eq]
      omega
    simp [faultI, e, wr, firstD]
  · rw [if_neg q]
    have c : cand h (burntP h) = [] := by
      rcases qP with z | z
      · exact absurd z q
      · exact z
    show fault h (.str "lot") (tI (rest h (burntP h))) = .none
    have rg : ∀ k ∈ rest h (burntP h), 0 ≤ k ∧ k < h.length := fun k hk => rgL_mem.mp (List.mem_filter.mp hk).1
    rw [fault_in rg]
    have ne : rest h (burntP h) ≠ [] := fun z => by
      have := rest_len vP
      have := vP.len
      rw [z] at *
      simp at *
      omega
    have u : up (rest h (burntP h)) = true := by
      unfold up
      rw [decide_eq_true_eq]
      exact (rgL_sorted _).filter _
    have wr : wrongL h (rest h (burntP h)) = [] := by
      unfold wrongL
      rw [List.filter_eq_nil_iff]
      intro k hk
      have := rest_few vP c k hk
      rw [decide_eq_true_eq]
      omega
    have nw : ¬ (("lot" : Str) = ("burns" : Str)) := by decide +kernel
    simp [faultI, nw, ne, u, wr, firstD]
end Kk22
namespace Kk22
open PySem Pm K22m
variable {h : List Int} (hm : h.length ≤ 60)
/-- small, plain values -/
def Sm (k w : Nat) (d : D) : Prop := RB k w d ∧ d.canLay0 = true
theorem Sm.mono {k w k' w' : Nat} {d : D} (h : Sm k w d) (hk : k ≤ k') (hw : w ≤ w') : Sm k' w' d := ⟨h.1.mono hk hw, h.2⟩
theorem canAll : ∀ {ds : List D}, (∀ d ∈ ds, d.canLay0 = true) → PyData.canLayAll0 ds = true
  | [], _ => by simp [PyData.canLayAll0]
  | d :: ds, h => by rw [PyData.canLayAll0, h d List.mem_cons_self, canAll fun x hx => h x (List.mem_cons_of_mem _ hx)]; rfl
theorem Sm.tup {k w n : Nat} {ds : List D} (h : ∀ d ∈ ds, Sm k w d) (hn : ds.length ≤ n) : Sm (k + 1) (2 + (w + 1) * n) (.tuple ds) :=
  ⟨(RB_tup fun d hd => (h d hd).1).mono (Nat.le_refl _) (Nat.add_le_add_left (Nat.mul_le_mul_left _ hn) _), by rw [PyData.canLay0]; exact canAll fun d hd => (h d hd).2⟩
theorem Sm.lst {k w n : Nat} {ds : List D} (h : ∀ d ∈ ds, Sm k w d) (hn : ds.length ≤ n) : Sm (k + 1) (2 + (w + 1) * n) (.list ds) :=
  ⟨(RB_list fun d hd => (h d hd).1).mono (Nat.le_refl _) (Nat.add_le_add_left (Nat.mul_le_mul_left _ hn) _), by rw [PyData.canLay0]; exact canAll fun d hd => (h d hd).2⟩
theorem Sm.int {i : Int} (h : i.natAbs < 1073741824) : Sm 0 31 (.int i) := ⟨RB_int h, rfl⟩
theorem Sm.of {k w : Nat} {d : D} (h : (d.showable && d.leavesShort 13 && decide (d.depth ≤ k) && decide (d.weight ≤ w)) = true) (h2 : d.canLay0 = true) : Sm k w d := ⟨RB_of h, h2⟩
theorem Sm.ok {k w : Nat} {d : D} (h : Sm k w d) (hk : k ≤ 64) (hw : w ≤ 1048576) : reprOk d = true := h.1.ok hk hw
theorem Sm.ints {l : List Int} (h : ∀ i ∈ l, i.natAbs < 1073741824) (hl : l.length ≤ 60) : Sm 1 2000 (tI l) :=
  (Sm.tup (k := 0) (w := 31) (n := 60) (fun d hd => by obtain ⟨i, hi, rfl⟩ := List.mem_map.mp hd; exact Sm.int (h i hi)) (by rw [iL_len]; exact hl)).mono (by omega) (by omega)
/-- a value of the law's: how small; its word, its lot -/
def Good (v : D) : Prop := okV v ∧ reprOk v = true
theorem good_pair {a b : D} (ha : HA a) (hb : short b) (h1 : Sm 2 100000 a) (h2 : Sm 2 200000 b) : Good (.tuple [a, b]) := by
  refine ⟨fun x y e => by cases e; exact ⟨ha, hb⟩, ?_⟩
  refine (Sm.tup (k := 2) (w := 200000) (n := 2) (fun d hd => ?_) (by simp)).ok (by omega) (by omega)
  rcases List.mem_cons.mp hd with rfl | hd
  · exact h1.mono (by omega) (by omega)
  · rcases List.mem_cons.mp hd with rfl | hd
    · exact h2
    · cases hd
theorem good_other {v : D} {k w : Nat} (hn : ∀ a b, v ≠ .tuple [a, b]) (hs : Sm k w v) (hk : k ≤ 64) (hw : w ≤ 1048576) : Good v := ⟨fun a b e => absurd e (hn a b), hs.ok hk hw⟩
theorem short_ints {l : List Int} (hl : l.length ≤ 1000) : short (tI l) := fun ds e => by
  cases e
  refine ⟨by rw [iL_len]; exact hl, fun d hd => ?_⟩
  obtain ⟨i, _, rfl⟩ := List.mem_map.mp hd
  exact ⟨rfl, by simp [PyData.depth]⟩
theorem short_of {ds : List D} {k w : Nat} (hl : ds.length ≤ 1000) (h : ∀ d ∈ ds, Sm k w d) (hk : k ≤ 60) : short (.tuple ds) := fun es e => by
  cases e
  exact ⟨hl, fun d hd => ⟨(h d hd).2, Nat.le_trans (h d hd).1.2.2.1 hk⟩⟩
theorem short_no {b : D} (h : ∀ ds, b ≠ .tuple ds) : short b := fun ds e => absurd e (h ds)
include hm in
theorem fault_repr {v : D} (hv : okV v) : reprOk (faultV h v) = true := by
  have ff : reprOk form = true := by decide +kernel
  have nn : reprOk (.none : D) = true := by decide +kernel
  have fi : ∀ w : Str, (w = "burns" ∨ w = "lot") → ∀ l : List Int, (∀ k ∈ l, k.natAbs < 1073741824) → reprOk (firstD w l) = true := fun w hw l hl => by
    cases l with
    | nil => exact nn
    | cons k r =>
      have h1 : Sm 0 100 (.str w) := by
        rcases hw with rfl | rfl
        · exact Sm.of (by decide +kernel) (by decide +kernel)
        · exact Sm.of (by decide +kernel) (by decide +kernel)
      have h2 := Sm.int (hl k List.mem_cons_self)
      refine (Sm.tup (k := 0) (w := 100) (n := 2) (ds := [.str w, .int k]) (fun d hd => ?_) (by simp)).ok (by omega) (by omega)
      rcases List.mem_cons.mp hd with rfl | hd
      · exact h1
      · rcases List.mem_cons.mp hd with rfl | hd
        · exact h2.mono (by omega) (by omega)
        · cases hd
  unfold faultV
  split
  · rename_i a b
    obtain ⟨ha, hb⟩ := hv a b rfl
    unfold fault
    split
    · rename_i ds
      have hl := (hb ds rfl).1
      split
      · rename_i t e
        obtain rfl := intsL_some e
        rw [iL_len] at hl
        split
        · rename_i ht
          unfold faultI
          split
          · split
            · split
              · refine fi _ (.inl rfl) _ fun k hk => ?_
                unfold wrongB at hk
                obtain ⟨i, hi, rfl⟩ := List.mem_map.mp hk
                have := List.mem_range.mp (List.mem_filter.mp hi).1
                omega
              · exact ff
            · split
              · split
                · refine fi _ (.inr rfl) _ fun k hk => ?_
                  have hk := (List.mem_filter.mp hk).1
                  have := ht k hk
                  omega
                · exact ff
              · exact ff
          · exact ff
        · exact ff
      · exact ff
    · exact ff
  · exact ff
include hm in
/-- one value is asked -/
theorem b44_eq {v kept vals : D} (g : Good v) : g_law_b44 (tI h) kept (paper h) vals v = some (.nx ()) := by
  obtain ⟨hv, hr⟩ := g
  have hf := fault_repr hm hv
  unfold g_law_b44
  simp -implicitDefEqProofs only [Option.bind_some, repr_eq hr, lfault_eq hm hv, judge_eq hm hv, repr_eq hf, cmp_nes, BEq.rfl, Bool.not_true, Bool.false_eq_true, if_false]
  unfold g_law_k45
  simp -implicitDefEqProofs only [Option.bind_some, cmp_isn]
  cases q : isNone (faultV h v) with
  | false => simp
  | true =>
    have e : faultV h v = .none := by
      revert q
      cases faultV h v <;> intro q <;> first | rfl | cases q
    obtain ⟨w, b, rfl, b', hp⟩ := fault_none hm e
    simp -implicitDefEqProofs only [if_true, idx0, hp, Option.bind_some, cmp_nes, BEq.rfl, Bool.not_true, Bool.false_eq_true, if_false]
/-- [..][k] of a drawn k -/
theorem of_P {ds : List D} {Q : D → Prop} (h0 : 1 ≤ ds.length ∧ ds.length < 1000) (hQ : ∀ d ∈ ds, Q d) : wl__law_of propA [.list ds] Q := by
  show w__law_of_e4 propA (.list ds) Q
  unfold w__law_of_e4 w__law_of_e1 w__law_of_e3 w__law_of_e2
  simp -implicitDefEqProofs only [Option.bind_some, lW_some, len_l]
  refine pick_pos (by omega) fun i h1 h2 => ?_
  obtain ⟨d, hd, e1, _⟩ := idx_mem (ds := ds) h1 h2
  exact lW_of e1 (hQ d hd)
def oddL (m : Int) : List D := [.none, .bool true, .int (-1), .int m, .str "0", .tuple [.int 0], .list [.int 0], .int 0, .int 1000000000]
/-- what may stand in a drawn place -/
structure Odd (o : D) : Prop where
  sm : Sm 1 200 o
  ha : HA o
  sh : short o
theorem odd_ok {m : Nat} (hm : m < 12) {o : D} (ho : o ∈ oddL m) : Odd o := by
  have closed : ∀ o : D, (o.showable && o.leavesShort 13 && decide (o.depth ≤ 1) && decide (o.weight ≤ 200)) = true → o.canLay0 = true → o.shown ≠ "'burns'" → o.shown ≠ "'lot'" → o ≠ .str "burns" → o ≠ .str "lot" → short o → Odd o := fun o h1 h2 h3 h4 h5 h6 h7 =>
    ⟨Sm.of h1 h2, .o ((Sm.of h1 h2).ok (by omega) (by omega)) h3 h4 h5 h6, h7⟩
  have str : ∀ w v : Str, w ≠ v → PyData.str w ≠ PyData.str v := fun w v h e => h (PyData.str.inj e)
  unfold oddL at ho
  simp only [List.mem_cons, List.not_mem_nil, or_false] at ho
  rcases ho with rfl | rfl | rfl | rfl | rfl | rfl | rfl | rfl | rfl
  · exact closed _ (by decide +kernel) (by decide +kernel) (by decide +kernel) (by decide +kernel) (fun z => by cases z) (fun z => by cases z) (short_no fun ds z => by cases z)
  · exact closed _ (by decide +kernel) (by decide +kernel) (by decide +kernel) (by decide +kernel) (fun z => by cases z) (fun z => by cases z) (short_no fun ds z => by cases z)
  · exact closed _ (by decide +kernel) (by decide +kernel) (by decide +kernel) (by decide +kernel) (fun z => by cases z) (fun z => by cases z) (short_no fun ds z => by cases z)
  · have : m = 0 ∨ m = 1 ∨ m = 2 ∨ m = 3 ∨ m = 4 ∨ m = 5 ∨ m = 6 ∨ m = 7 ∨ m = 8 ∨ m = 9 ∨ m = 10 ∨ m = 11 := by omega
    rcases this with rfl | rfl | rfl | rfl | rfl | rfl | rfl | rfl | rfl | rfl | rfl | rfl <;> exact closed _ (by decide +kernel) (by decide +kernel) (by decide +kernel) (by decide +kernel) (fun z => by cases z) (fun z => by cases z) (short_no fun ds z => by cases z)
  · exact closed _ (by decide +kernel) (by decide +kernel) (by decide +kernel) (by decide +kernel) (str _ _ (by decide +kernel)) (str _ _ (by decide +kernel)) (short_no fun ds z => by cases z)
  · exact closed _ (by decide +kernel) (by decide +kernel) (by decide +kernel) (by decide +kernel) (fun z => by cases z) (fun z => by cases z) (short_ints (l := [0]) (by simp))
  · exact closed _ (by decide +kernel) (by decide +kernel) (by decide +kernel) (by decide +kernel) (fun z => by cases z) (fun z => by cases z) (short_no fun ds z => by cases z)
  · exact closed _ (by decide +kernel) (by decide +kernel) (by decide +kernel) (by decide +kernel) (fun z => by cases z) (fun z => by cases z) (short_no fun ds z => by cases z)
  · exact closed _ (by decide +kernel) (by decide +kernel) (by decide +kernel) (by decide +kernel) (fun z => by cases z) (fun z => by cases z) (short_no fun ds z => by cases z)
def T (w : Str) (b : D) : D := .tuple [.str w, b]
theorem wB : HA (.str "burns") ∧ Sm 2 100000 (.str "burns") := ⟨.b, Sm.of (by decide +kernel) (by decide +kernel)⟩
theorem wL : HA (.str "lot") ∧ Sm 2 100000 (.str "lot") := ⟨.l, Sm.of (by decide +kernel) (by decide +kernel)⟩
theorem wLL : HA (.str "Lot") ∧ Sm 2 100000 (.str "Lot") := ⟨.o (by decide +kernel) (by decide +kernel) (by decide +kernel) (fun z => absurd (PyData.str.inj z) (by decide +kernel)) (fun z => absurd (PyData.str.inj z) (by decide +kernel)), Sm.of (by decide +kernel) (by decide +kernel)⟩
/-- numbers of crossings -/
def Nums (l : List Int) : Prop := l.length ≤ 60 ∧ ∀ i ∈ l, i.natAbs < 1000000
theorem Nums.sm {l : List Int} (h : Nums l) : Sm 1 2000 (tI l) := Sm.ints (fun i hi => by have := h.2 i hi; omega) h.1
theorem Nums.sub {l r : List Int} (h : Nums l) (hl : r.length ≤ 60) (hs : ∀ i ∈ r, i ∈ l) : Nums r := ⟨hl, fun i hi => h.2 i (hs i hi)⟩
theorem good_nums {w : Str} {l : List Int} (hw : HA (.str w) ∧ Sm 2 100000 (.str w)) (h : Nums l) : Good (T w (tI l)) := good_pair hw.1 (short_ints (by have := h.1; omega)) hw.2 (h.sm.mono (by omega) (by omega))
theorem good_bent {w : Str} {a b : List Int} {o : D} (hw : HA (.str w) ∧ Sm 2 100000 (.str w)) (ha : Nums a) (hb : Nums b) (ho : Odd o) (hl : a.length + b.length ≤ 90) : Good (T w (.tuple (iL a ++ [o] ++ iL b))) := by
  have hd : ∀ d ∈ iL a ++ [o] ++ iL b, Sm 1 200 d := fun d hd => by
    rcases List.mem_append.mp hd with hd | hd
    · rcases List.mem_append.mp hd with hd | hd
      · obtain ⟨i, hi, rfl⟩ := List.mem_map.mp hd
        exact (Sm.int (by have := ha.2 i hi; omega)).mono (by omega) (by omega)
      · rw [List.mem_singleton.mp hd]; exact ho.sm
    · obtain ⟨i, hi, rfl⟩ := List.mem_map.mp hd
      exact (Sm.int (by have := hb.2 i hi; omega)).mono (by omega) (by omega)
  have ln : (iL a ++ [o] ++ iL b).length ≤ 100 := by simp [iL_len]; omega
  exact good_pair hw.1 (short_of (by omega) hd (by omega)) hw.2 ((Sm.tup hd ln).mono (by omega) (by omega))
theorem good_odd {w : Str} {o : D} (hw : HA (.str w) ∧ Sm 2 100000 (.str w)) (ho : Odd o) : Good (T w o) := good_pair hw.1 ho.sh hw.2 (ho.sm.mono (by omega) (by omega))
end Kk22
namespace Kk22
open PySem Pm K22m
theorem lWs {α : Type} {M : Alg} (a : α) (k : α → M.A) : lW M (some a) k = k a := lW_some a k
/-- the values that are asked -/
def vals1 (h rst drawn lot : List Int) : List D := [paper h, T "burns" (tI (burntL h)), T "lot" (tI rst), T "burns" (tI drawn), T "lot" (tI lot), T "lot" (tI drawn)]
def vals2 (drawn lot : List Int) (k : Nat) (o : D) : List D := [T "lot" (.tuple (iL (lot.take 1) ++ [o] ++ iL (lot.drop 1))), T "burns" (.tuple (iL (drawn.take k) ++ [o] ++ iL (drawn.drop (k + 1))))]
def vals3 (w : Str) (b : List Int) (lot : List Int) (o : D) : List D := [T "lot" (.tuple []), T "burns" (.tuple []), T "lot" o, .none, .tuple [], .tuple [.str w, tI b, .int 0], .tuple [.str w], T "Lot" (tI lot)]
def vals4 (w : Str) (b : List Int) (lot : List Int) (o : D) : List D := [.list [.str w, tI b], T "burns" (tI lot), .tuple [o, tI lot]]
def vals5 (b drawn : List Int) (m : Nat) : List D := [T "burns" (.list (iL drawn)), T "burns" (.tuple (iL b).reverse), T "lot" (tI (rgL m))]
theorem goods {h rst drawn lot b : List Int} {w : Str} {k m : Nat} {o : D} (hp : paper h = T w (tI b)) (hw : HA (.str w) ∧ Sm 2 100000 (.str w)) (nb : Nums b) (nB : Nums (burntL h)) (nr : Nums rst) (nd : Nums drawn) (nl : Nums lot) (hl : lot.length ≤ 20 ∧ drawn.length ≤ 20) (hm : m ≤ 20) (ho : Odd o) :
    ∀ v ∈ vals1 h rst drawn lot ++ vals2 drawn lot k o ++ vals3 w b lot o ++ vals4 w b lot o ++ vals5 b drawn m, Good v := by
  have sub : ∀ {l r : List Int}, Nums l → (∀ i ∈ r, i ∈ l) → r.length ≤ l.length → Nums r := fun h1 h2 h3 => h1.sub (Nat.le_trans h3 h1.1) h2
  have nn : Nums [] := ⟨by simp, by simp⟩
  have nm : Nums (rgL m) := ⟨by rw [rgL_len]; omega, fun i hi => by have := rgL_mem.mp hi; omega⟩
  have sw : Sm 0 200 (.str w) ∨ True := .inr trivial
  have s2 : ∀ {l : List Int}, Nums l → Sm 2 100000 (tI l) := fun h => h.sm.mono (by omega) (by omega)
  intro v hv
  simp only [List.mem_append, vals1, vals2, vals3, vals4, vals5, List.mem_cons, List.not_mem_nil, or_false] at hv
  rcases hv with (((hv | hv) | hv) | hv) | hv
  · rcases hv with rfl | rfl | rfl | rfl | rfl | rfl
    · rw [hp]; exact good_nums hw nb
    · exact good_nums wB nB
    · exact good_nums wL nr
    · exact good_nums wB nd
    · exact good_nums wL nl
    · exact good_nums wL nd
  · rcases hv with rfl | rfl
    · exact good_bent wL (sub nl (fun i hi => List.mem_of_mem_take hi) (by simp; omega)) (sub nl (fun i hi => List.mem_of_mem_drop hi) (by simp)) ho (by simp; omega)
    · exact good_bent wB (sub nd (fun i hi => List.mem_of_mem_take hi) (by simp; omega)) (sub nd (fun i hi => List.mem_of_mem_drop hi) (by simp)) ho (by simp; omega)
  · rcases hv with rfl | rfl | rfl | rfl | rfl | rfl | rfl | rfl
    · exact good_nums wL nn
    · exact good_nums wB nn
    · exact good_odd wL ho
    · exact good_other (k := 0) (w := 100) (fun a b e => by cases e) (Sm.of (by decide +kernel) rfl) (by omega) (by omega)
    · exact good_other (k := 1) (w := 100) (fun a b e => by cases e) (Sm.of (by decide +kernel) (by decide +kernel)) (by omega) (by omega)
    · exact good_other (k := 3) (w := 2 + 100001 * 3) (fun a b e => by cases e) (Sm.tup (k := 2) (w := 100000) (n := 3) (fun d hd => by
        simp only [List.mem_cons, List.not_mem_nil, or_false] at hd
        rcases hd with rfl | rfl | rfl
        · exact hw.2
        · exact s2 nb
        · exact (Sm.int (by decide)).mono (by omega) (by omega)) (by simp)) (by omega) (by omega)
    · exact good_other (k := 3) (w := 2 + 100001 * 3) (fun a b e => by cases e) (Sm.tup (k := 2) (w := 100000) (n := 3) (fun d hd => by
        simp only [List.mem_cons, List.not_mem_nil, or_false] at hd
        rw [hd]; exact hw.2) (by simp)) (by omega) (by omega)
    · exact good_nums wLL nl
  · rcases hv with rfl | rfl | rfl
    · exact good_other (k := 3) (w := 2 + 100001 * 3) (fun a b e => by cases e) (Sm.lst (k := 2) (w := 100000) (n := 3) (fun d hd => by
        simp only [List.mem_cons, List.not_mem_nil, or_false] at hd
        rcases hd with rfl | rfl
        · exact hw.2
        · exact s2 nb) (by simp)) (by omega) (by omega)
    · exact good_nums wB nl
    · exact good_pair ho.ha (short_ints (by have := nl.1; omega)) (ho.sm.mono (by omega) (by omega)) (nl.sm.mono (by omega) (by omega))
  · rcases hv with rfl | rfl | rfl
    · refine good_pair wB.1 (short_no fun ds e => by cases e) wB.2 ((Sm.lst (k := 0) (w := 31) (n := 60) (fun d hd => ?_) (by rw [iL_len]; exact nd.1)).mono (by omega) (by omega))
      obtain ⟨i, hi, rfl⟩ := List.mem_map.mp hd
      exact Sm.int (by have := nd.2 i hi; omega)
    · rw [show (iL b).reverse = iL b.reverse by simp [iL]]
      exact good_nums wB (sub nb (fun i hi => List.mem_reverse.mp hi) (by simp))
    · exact good_nums wL nm
theorem paper_T (h : List Int) : ∃ w b, paper h = T w (tI b) ∧ (HA (.str w) ∧ Sm 2 100000 (.str w)) ∧ (∀ k ∈ b, 0 ≤ k ∧ k < h.length) ∧ b.length ≤ h.length ∧ (w == ("burns" : Str)) = decide ((burntL h).length = h.length) := by
  obtain ⟨vP, qP⟩ := burntP_ok h
  have ne : (("lot" : Str) == ("burns" : Str)) = false := by decide +kernel
  unfold paper
  by_cases q : (burntP h).length = h.length
  · rw [if_pos q]
    exact ⟨_, _, rfl, wB, vP.rg, vP.len, by rw [decide_eq_true ((burns_iff h).mp q)]; exact BEq.rfl⟩
  · rw [if_neg q]
    refine ⟨_, _, rfl, wL, fun k hk => rgL_mem.mp (List.mem_filter.mp hk).1, ?_, ?_⟩
    · have := List.length_filter_le (fun k => !decide (k ∈ burntP h)) (rgL h.length)
      rwa [rgL_len] at this
    · rw [decide_eq_false (fun z => q ((burns_iff h).mpr z)), ne]
theorem pow9 : powS (.int 10) (.int 9) = some (.int 1000000000) := by
  show (powD (.int 10) (.int 9)).bind rd = _
  unfold powD
  simp only
  rw [if_pos (by decide)]
  rfl
/-- all values are asked, for one heap -/
theorem k32_ok {h : List Int} {m : Nat} (hl : h.length = m) (hm : m < 12) (hb : ∀ x ∈ h, x.natAbs < 1000) {K : Fl Unit → Prop} (hK : K (.nx ())) : g_law_k32 propA (.int m) (tI h) (.str (tI h).shown) (paper h) (lI (burntL h)) K := by
  have hS := SL_val
  have hm60 : h.length ≤ 60 := by omega
  obtain ⟨w, b, hp, hw, brg, bl, _⟩ := paper_T h
  obtain ⟨vL, _⟩ := burntL_ok h
  have nums : ∀ {l : List Int}, (∀ k ∈ l, 0 ≤ k ∧ k < h.length) → l.length ≤ h.length → Nums l := fun h1 h2 => ⟨by omega, fun i hi => by have := h1 i hi; omega⟩
  unfold g_law_k32
  have key := filS_int (c := fun d152 => (some d152).bind fun x153 => (some (lI (burntL h))).bind fun x154 => cmpD .notin x153 x154) (p := fun k => !decide (k ∈ burntL h)) (l := rgL m) (by rw [rgL_len]; omega) (fun i hi => by
      simp -implicitDefEqProofs only [Option.bind_some, cmp_notin])
  simp -implicitDefEqProofs only [Option.bind_some] at key
  simp -implicitDefEqProofs only [Option.bind_some, rg1S_nat (show m ≤ SL by omega), key, Option.map_some, tup_l, lWs]
  generalize hr : (rgL m).filter (fun k => !decide (k ∈ burntL h)) = rst
  have nr : Nums rst := by
    refine nums (fun k hk => ?_) ?_
    · rw [← hr] at hk; have := rgL_mem.mp (List.mem_filter.mp hk).1; omega
    · rw [← hr]; have := List.length_filter_le (fun k => !decide (k ∈ burntL h)) (rgL m); rw [rgL_len] at this; omega
  unfold w_law_e37 w_law_e36 w_law_e35 w_law_e33 w_law_e34
  simp -implicitDefEqProofs only [Option.bind_some, Option.map_some, negS_int, pow9, lWs]
  refine of_P (ds := oddL m) ⟨by simp [oddL], by simp [oddL]⟩ fun o ho => ?_
  have ho := odd_ok hm ho
  unfold w_law_e43 w_law_e39 w_law_e38 w_law_e42 w_law_e41 w_law_e40
  simp -implicitDefEqProofs only [Option.bind_some, Option.map_some, addS, addS_int, lWs]
  refine pick_pos (by omega) fun k k0 k1 => ?_
  have hx : (iL (rgL m)).length ≤ SL := by rw [iL_len, rgL_len]; omega
  simp -implicitDefEqProofs only [Option.bind_some, Option.map_some, rg1S_nat (show m ≤ SL by omega), List.append_nil, shortS_eq hx, lWs]
  refine mixI (l := rgL m) (seq_l _) (by rw [rgL_len]; omega) fun drawn hd => ?_
  obtain ⟨kn, rfl⟩ := Int.eq_ofNat_of_zero_le k0
  have ld : drawn.length = m := by rw [hd.length_eq, rgL_len]
  have rd : ∀ x ∈ drawn, 0 ≤ x ∧ x < h.length := fun x hx => by have := rgL_mem.mp (hd.mem_iff.mp hx); omega
  have nd : Nums drawn := nums rd (by omega)
  have e1 := sliTo_I drawn kn
  simp -implicitDefEqProofs only [tup_l, lWs, Option.bind_some, intS_int, e1, sort_tI]
  generalize hlot : sortI (drawn.take kn) = lot
  have pl : lot.Perm (drawn.take kn) := hlot ▸ sortI_perm _
  have ll : lot.length ≤ m := by rw [pl.length_eq, List.length_take]; omega
  have rl : ∀ x ∈ lot, 0 ≤ x ∧ x < h.length := fun x hx => rd x (List.mem_of_mem_take (pl.mem_iff.mp hx))
  have nl : Nums lot := nums rl (by omega)
  have hS' : SL = 16777216 := rfl
  have e2 : binS .add (tI (lot.take 1)) (.tuple [o]) = some (.tuple (iL (lot.take 1) ++ [o])) := addS_t (by rw [iL_len, List.length_take]; simp; omega)
  have e3 : binS .add (.tuple (iL (lot.take 1) ++ [o])) (tI (lot.drop 1)) = some (.tuple (iL (lot.take 1) ++ [o] ++ iL (lot.drop 1))) := addS_t (by rw [List.length_append, iL_len, iL_len, List.length_take, List.length_drop]; simp; omega)
  have e4 : binS .add (tI (drawn.take kn)) (.tuple [o]) = some (.tuple (iL (drawn.take kn) ++ [o])) := addS_t (by rw [iL_len, List.length_take]; simp; omega)
  have e5 : binS .add (.tuple (iL (drawn.take kn) ++ [o])) (tI (drawn.drop (kn + 1))) = some (.tuple (iL (drawn.take kn) ++ [o] ++ iL (drawn.drop (kn + 1)))) := addS_t (by rw [List.length_append, iL_len, iL_len, List.length_take, List.length_drop]; simp; omega)
  have e6 : sliS (tI lot) .none (.int 1) = some (tI (lot.take 1)) := sliTo_I lot 1
  have e7 : sliS (tI lot) (.int 1) .none = some (tI (lot.drop 1)) := sliFrom_I lot 1
  have e8 : sliS (tI drawn) (.int ((kn : Int) + 1)) .none = some (tI (drawn.drop (kn + 1))) := sliFrom_I drawn (kn + 1)
  have e9 : binS .add (T w (tI b)) (.tuple [.int 0]) = some (.tuple [.str w, tI b, .int 0]) := addS_t (by simp [SL_val])
  have e10 : sliS (T w (tI b)) .none (.int 1) = some (.tuple [.str w]) := sliTo [.str w, tI b] 1
  have e11 : idxD (T w (tI b)) (.int 1) = some (tI b) := rfl
  have e12 : biS .list [T w (tI b)] = some (.list [.str w, tI b]) := rfl
  have e13 : revS (tI b) = some (.tuple (iL b).reverse) := rfl
  have e14 : biS .list [tI drawn] = some (.list (iL drawn)) := rfl
  have hx2 : (iL (rgL m)).length ≤ SL := by rw [iL_len, rgL_len]; omega
  simp -implicitDefEqProofs only [hp, tup_l, lWs, Option.bind_some, Option.map_some, intS_int, addS, addS_int, e1, e2, e3, e4, e5, e6, e7, e8, e9, e10, e11, e12, e13, e14, rg1S_nat (show m ≤ SL by omega), List.append_nil, shortS_eq hx2]
  have a1 : ∀ {x y : List D}, x.length + y.length ≤ 1000 → binS .add (.list x) (.list y) = some (.list (x ++ y)) := fun q => addS_l (by omega)
  rw [a1 (by simp)]
  simp -implicitDefEqProofs only [lWs]
  rw [a1 (by simp)]
  simp -implicitDefEqProofs only [lWs]
  rw [a1 (by simp)]
  simp -implicitDefEqProofs only [lWs]
  rw [a1 (by simp)]
  simp -implicitDefEqProofs only [lWs, seq_l, Option.bind_some]
  have all := goods (k := kn) (m := m) hp hw (nums brg bl) (nums vL.rg vL.len) nr nd nl ⟨by omega, by omega⟩ (by omega) ho
  rw [← hp]
  have fa : ∀ vs : List D, (∀ v ∈ vs, Good v) → forF (fun (d406 : D) (s405 : Unit) => g_law_b44 (tI h) (.str (tI h).shown) (paper h) (.list vs) d406) vs () = some (.nx ()) := fun vs hv => forF_all fun v h => b44_eq hm60 (hv v h)
  refine lW_of (fa _ all) ?_
  unfold flW
  unfold w_law_e46
  have rh : reprOk (tI h) = true := reprOk_tup (fun i hi => by have := hb i hi; omega) (by omega)
  simp -implicitDefEqProofs only [Option.bind_some, Pm.repr_eq rh, cmp_nes, BEq.rfl, Bool.not_true, lWs, Bool.false_eq_true, if_false]
  exact hK
theorem isNone_none : isNone PyData.none = true := rfl
theorem k28_ok {h : List Int} {m : Nat} (hl : h.length = m) (hm : m < 12) (hb : ∀ x ∈ h, x.natAbs < 1000) {K : Fl Unit → Prop} (hK : K (.nx ())) : g_law_k28 propA (.int m) (tI h) K := by
  have hm60 : h.length ≤ 60 := by omega
  have rh : reprOk (tI h) = true := reprOk_tup (fun i hi => by have := hb i hi; omega) (by omega)
  unfold g_law_k28
  simp -implicitDefEqProofs only [Option.bind_some, repr_eq rh, paper_eq (show h.length ≤ 1000 by omega), lburnt_eq (show h.length ≤ 1000 by omega), lWs]
  obtain ⟨w, b, hp, hw, brg, bl, e⟩ := paper_T h
  unfold w_law_e29
  have f0 : okV (paper h) := fun x y q => by
    rw [hp] at q
    cases q
    exact ⟨hw.1, short_ints (by omega)⟩
  have f1 : idxD (paper h) (.int 0) = some (.str w) := by rw [hp]; rfl
  have e2 : (((burntL h).length : Int) == (m : Int)) = decide ((burntL h).length = h.length) := by
    rw [hl]
    by_cases q : (burntL h).length = m
    · simp [q]
    · have : ¬ ((burntL h).length : Int) = (m : Int) := by omega
      simp [q, this]
  simp -implicitDefEqProofs only [Option.bind_some, Option.map_some, f1, cmp_eqs, len_lI, cmp_eqi, e, e2, cmp_neb, BEq.rfl, Bool.not_true, Bool.false_eq_true, if_false, lfault_eq hm60 f0, paper_right hm60, cmp_notn, isNone_none, lWs]
  exact k32_ok hl hm hb hK
theorem all2_bd {P : Int → Int → Prop} {l r : List Int} (h : All2 P l r) : ∀ x ∈ r, ∃ k ∈ l, P k x := by
  induction h with
  | nil => intro x hx; cases hx
  | cons h1 _ ih =>
    intro x hx
    rcases List.mem_cons.mp hx with rfl | hx
    · exact ⟨_, List.mem_cons_self, h1⟩
    · obtain ⟨k, hk, hp⟩ := ih x hx
      exact ⟨k, List.mem_cons_of_mem _ hk, hp⟩
/-- a drawn parking: so many small numbers -/
theorem parking_P {m : Nat} (hm : m < 12) {Q : D → Prop} (hQ : ∀ r : List Int, r.length = m → (∀ x ∈ r, 0 ≤ x ∧ x < m) → Q (tI r)) : wl__law_parking propA [.int m] Q := by
  have hS := SL_val
  show w__law_parking_e6 propA (.int m) Q
  unfold w__law_parking_e6 w__law_parking_e5 w__law_parking_e4 w__law_parking_e1
  simp -implicitDefEqProofs only [Option.bind_some, rg1S_nat (show m ≤ SL by omega), lWs, iL_len, rgL_len]
  rw [if_pos (by omega)]
  refine mapP (P := fun a b => ∃ i j, a = .int i ∧ b = .int j ∧ (0 ≤ j ∧ j < i + 1)) _ _ (fun d hd K hK => ?_) fun ys hy => ?_
  · obtain ⟨i, hi, rfl⟩ := List.mem_map.mp hd
    have hi := rgL_mem.mp hi
    unfold w__law_parking_e3 w__law_parking_e2
    simp -implicitDefEqProofs only [Option.bind_some, addS, addS_int, lWs]
    exact pick_pos (by omega) fun j j0 j1 => hK _ ⟨i, j, rfl, rfl, j0, j1⟩
  · obtain ⟨r, rfl, hr⟩ := all2_int (P := fun i j => 0 ≤ j ∧ j < i + 1) hy
    have lr : r.length = m := by rw [hr.len, rgL_len]
    refine mixI (l := r) (seq_l _) (by omega) fun s hs => ?_
    refine lW_of (tup_l _) (hQ s (by rw [hs.length_eq, lr]) fun x hx => ?_)
    obtain ⟨k, hk, hp⟩ := all2_bd hr x (hs.mem_iff.mp hx)
    have := rgL_mem.mp hk
    omega
theorem max2_eq (a b : Int) : biS .max2 [.int a, .int b] = some (.int (if b > a then b else a)) := rfl
theorem b2_ok {l : Int} (hl : 0 ≤ l ∧ l < 4) {K : Fl Unit → Prop} (hK : K (.nx ())) : g_law_b2 propA (.int l) K := by
  have hS := SL_val
  unfold g_law_b2 w_law_e5 w_law_e4 w_law_e3
  have main : ∀ m : Int, 0 ≤ m → m < 12 → (w_law_e11 propA (.int l) (.int m)) fun s31 => (w_law_e27 propA (.int m) s31) (flW propA (fun (s83 : D) Q => g_law_k28 propA (.int m) s83 Q) Fl.rt K) := fun m h0 h1 => by
    obtain ⟨mn, rfl⟩ := Int.eq_ofNat_of_zero_le h0
    unfold w_law_e11 w_law_e10 w_law_e9 w_law_e6
    simp -implicitDefEqProofs only [Option.bind_some, rg1S_nat (show mn ≤ SL by omega), lWs, iL_len, rgL_len]
    rw [if_pos (by omega)]
    refine mapP (P := fun a b => ∃ i j, a = .int i ∧ b = .int j ∧ (0 ≤ j ∧ j < 12)) _ _ (fun d hd K hK => ?_) fun ys hy => ?_
    · obtain ⟨i, hi, rfl⟩ := List.mem_map.mp hd
      unfold w_law_e8 w_law_e7
      simp -implicitDefEqProofs only [Option.bind_some, max2_eq, lWs]
      refine pickP (by split <;> omega) fun j j0 j1 => hK _ ⟨i, j, rfl, rfl, j0, ?_⟩
      split at j1 <;> omega
    · obtain ⟨r, rfl, hr⟩ := all2_int (P := fun i j => 0 ≤ j ∧ j < 12) hy
      have lr : r.length = mn := by rw [hr.len, rgL_len]
      simp -implicitDefEqProofs only [List.reverse_nil, List.nil_append, tup_l, lWs]
      unfold w_law_e27 w_law_e15 w_law_e13 w_law_e12 w_law_e14
      simp -implicitDefEqProofs only [lWs]
      refine pick_pos (by omega) fun z z0 z1 => ?_
      simp -implicitDefEqProofs only [lWs, cmp_eqi]
      split
      · unfold g_law_b16 w_law_e25 w_law_e24 w_law_e23 w_law_e21 w_law_e20 w_law_e19 w_law_e17 w_law_e18
        simp -implicitDefEqProofs only [lWs]
        refine parking_P (by omega) fun p lp rp => ?_
        simp -implicitDefEqProofs only [seq_t, lWs, iL_len]
        rw [if_pos (by omega)]
        refine mapP (P := fun a b => ∃ i j, a = .int i ∧ b = .int j ∧ (-12 ≤ j ∧ j ≤ 12)) _ _ (fun d hd K hK => ?_) fun ys hy => ?_
        · obtain ⟨i, hi, rfl⟩ := List.mem_map.mp hd
          have := rp i hi
          unfold w_law_e22
          simp -implicitDefEqProofs only [Option.bind_some, subS, subS_int]
          exact lW_of rfl (hK _ ⟨i, (mn : Int) - 1 - i, rfl, rfl, by omega, by omega⟩)
        · obtain ⟨q, rfl, hq⟩ := all2_int (P := fun i j => -12 ≤ j ∧ j ≤ 12) hy
          simp -implicitDefEqProofs only [List.reverse_nil, List.nil_append, tup_l, lWs]
          exact k28_ok (by rw [hq.len, lp]) (by omega) (fun x hx => by obtain ⟨k, hk, hp⟩ := all2_bd hq x hx; omega) hK
      · unfold g_law_b26
        exact k28_ok lr (by omega) (fun x hx => by obtain ⟨k, hk, hp⟩ := all2_bd hr x hx; omega) hK
  have : l = 0 ∨ l = 1 ∨ l = 2 ∨ l = 3 := by omega
  rcases this with rfl | rfl | rfl | rfl
  · rw [show ((((some (PyData.int 3)).bind fun x26 => ((some (PyData.int 5)).bind fun x24 => ((some (PyData.int 8)).bind fun x22 => ((some (PyData.int 12)).bind fun x20 => (some []).bind fun x21 => some (x20 :: x21)).bind fun x23 => some (x22 :: x23)).bind fun x25 => some (x24 :: x25)).bind fun x27 => some (x26 :: x27)).map PyData.list).bind fun x28 => (some (PyData.int 0)).bind fun x29 => idxD x28 x29) = some (.int 3) from rfl, lWs]
    exact pick_pos (by omega) fun i h0 h1 => main i h0 (by omega)
  · rw [show ((((some (PyData.int 3)).bind fun x26 => ((some (PyData.int 5)).bind fun x24 => ((some (PyData.int 8)).bind fun x22 => ((some (PyData.int 12)).bind fun x20 => (some []).bind fun x21 => some (x20 :: x21)).bind fun x23 => some (x22 :: x23)).bind fun x25 => some (x24 :: x25)).bind fun x27 => some (x26 :: x27)).map PyData.list).bind fun x28 => (some (PyData.int 1)).bind fun x29 => idxD x28 x29) = some (.int 5) from rfl, lWs]
    exact pick_pos (by omega) fun i h0 h1 => main i h0 (by omega)
  · rw [show ((((some (PyData.int 3)).bind fun x26 => ((some (PyData.int 5)).bind fun x24 => ((some (PyData.int 8)).bind fun x22 => ((some (PyData.int 12)).bind fun x20 => (some []).bind fun x21 => some (x20 :: x21)).bind fun x23 => some (x22 :: x23)).bind fun x25 => some (x24 :: x25)).bind fun x27 => some (x26 :: x27)).map PyData.list).bind fun x28 => (some (PyData.int 2)).bind fun x29 => idxD x28 x29) = some (.int 8) from rfl, lWs]
    exact pick_pos (by omega) fun i h0 h1 => main i h0 (by omega)
  · rw [show ((((some (PyData.int 3)).bind fun x26 => ((some (PyData.int 5)).bind fun x24 => ((some (PyData.int 8)).bind fun x22 => ((some (PyData.int 12)).bind fun x20 => (some []).bind fun x21 => some (x20 :: x21)).bind fun x23 => some (x22 :: x23)).bind fun x25 => some (x24 :: x25)).bind fun x27 => some (x26 :: x27)).map PyData.list).bind fun x28 => (some (PyData.int 3)).bind fun x29 => idxD x28 x29) = some (.int 12) from rfl, lWs]
    exact pick_pos (by omega) fun i h0 h1 => main i h0 (by omega)
theorem last_ok : w_law_e50 propA fun d => d = .bool true := by
  unfold w_law_e50
  exact lW_of (a := .bool true) (by kernel_rfl) rfl
theorem law_ok : w_law propA fun d => d = .bool true := by
  have hS := SL_val
  unfold w_law w_law_e49 w_law_e1
  simp -implicitDefEqProofs only [Option.bind_some]
  rw [show rg1S (.int 4) = some (iL (rgL 4)) from rg1S_nat (n := 4) (by omega), lWs]
  refine forP (I := fun _ => True) _ _ trivial (fun d hd st _ K hK => ?_) fun st _ => ?_
  · obtain ⟨i, hi, rfl⟩ := List.mem_map.mp hd
    have hi := rgL_mem.mp hi
    exact b2_ok ⟨by omega, by omega⟩ (hK () trivial)
  · exact last_ok
end Kk22
namespace Kk22
open PySem Pm
theorem true_ : Pm.LawTrue N_law.length 1 B_law := lawP law_ok
end Kk22
namespace Kk22
open PySem PySem.Spec PyProof.Rows L2 Pm
def at_ (i : Nat) : Stmt := PySem.Challenge.pw_roundswaps_k22_heap_papers_judged.main.body.getD i (.Pass ⟨0, 0, 0, 0⟩)
def dd (x : Str) (i : Nat) : He.DefD := ⟨(x, none), x, x, defArgs (at_ i), defBody (at_ i), defScope (at_ i), [], []⟩
def fn : List He.DefD := [dd "_law_source" 8, dd "_law_pick" 9, dd "_law_of" 10, dd "burnt_so_far" 4, dd "heap_paper" 5, dd "_law_burnt" 15, dd "is_whole" 1, dd "are_numbers" 2, dd "judge_heap" 6, dd "_law_is_int" 12, dd "_law_fault" 14, dd "_law_mixed" 11, dd "_law_parking" 13, dd "law" 16]
def fa : List He.Fa := [.glo "_law_source", .glo "_law_pick", .glo "_law_of", .glo "burnt_so_far", .glo "heap_paper", .glo "_law_burnt", .glo "is_whole", .glo "are_numbers", .glo "judge_heap", .glo "_law_is_int", .glo "_law_fault", .glo "_law_mixed", .glo "_law_parking", .glo "law", .free "len", .free "int", .free "abs", .free "max", .free "min", .free "sum", .free "all", .free "any", .free "list", .free "tuple", .free "sorted", .free "repr", .free "isinstance", .free "range", .free "enumerate", .free "bool", .free "str", .free "dict"]
abbrev R : PySem.W.OpenRow := PySem.W.OpenLaw.row PySem.Challenge.rw_roundswaps_k22_heap_papers_judged
def loose : List Str := (["is_whole", "are_numbers", "burnt_so_far", "heap_paper", "judge_heap", "_law_source", "_law_pick", "_law_of", "_law_mixed", "_law_is_int", "_law_parking", "_law_fault", "_law_burnt"] : List Str)
abbrev hk : PySem.W.Hook := He.hookD 4 fa fn
def ob (s : PySem.W.SharedT) : He.AlD := He.obsDG 4 fa fn (HandSHeadRun.getT s)
theorem ob_eq (s : PySem.W.SharedT) : ob s = hk.obs s.abs := He.obsDG_eq (HandSHeadRun.getT_eq s)
theorem run (w : World) : HandSHeadRun.RunEq R (PySem.W.view R.prog [16]) hk ob 4000 loose w := by
  intro os
  kernel_rfl
theorem sc__law_source : FnScope srcN ["script"] (defScope (at_ 8)) := ⟨rfl, rfl, rfl, by decide +kernel, rfl, by decide +kernel, by decide +kernel⟩
theorem ck__law_source : chkSrc (defScope (at_ 8)) (defBody (at_ 8)) = true := by decide +kernel
theorem sc__law_pick : FnScope N__law_pick ["source", "many"] (defScope (at_ 9)) := ⟨rfl, rfl, rfl, by decide +kernel, rfl, by decide +kernel, by decide +kernel⟩
theorem ck__law_pick : chkSs (defScope (at_ 9)) N__law_pick B__law_pick (defBody (at_ 9)) = true := by decide +kernel
theorem sc__law_of : FnScope N__law_of ["source", "some"] (defScope (at_ 10)) := ⟨rfl, rfl, rfl, by decide +kernel, rfl, by decide +kernel, by decide +kernel⟩
theorem ck__law_of : chkSs (defScope (at_ 10)) N__law_of B__law_of (defBody (at_ 10)) = true := by decide +kernel
theorem sc_burnt_so_far : FnScope N_burnt_so_far ["heap"] (defScope (at_ 4)) := ⟨rfl, rfl, rfl, by decide +kernel, rfl, by decide +kernel, by decide +kernel⟩
theorem ck_burnt_so_far : chkSs (defScope (at_ 4)) N_burnt_so_far B_burnt_so_far (defBody (at_ 4)) = true := by decide +kernel
theorem sc_heap_paper : FnScope N_heap_paper ["heap"] (defScope (at_ 5)) := ⟨rfl, rfl, rfl, by decide +kernel, rfl, by decide +kernel, by decide +kernel⟩
theorem ck_heap_paper : chkSs (defScope (at_ 5)) N_heap_paper B_heap_paper (defBody (at_ 5)) = true := by decide +kernel
theorem sc__law_burnt : FnScope N__law_burnt ["heap"] (defScope (at_ 15)) := ⟨rfl, rfl, rfl, by decide +kernel, rfl, by decide +kernel, by decide +kernel⟩
theorem ck__law_burnt : chkSs (defScope (at_ 15)) N__law_burnt B__law_burnt (defBody (at_ 15)) = true := by decide +kernel
theorem sc_is_whole : FnScope N_is_whole ["value"] (defScope (at_ 1)) := ⟨rfl, rfl, rfl, by decide +kernel, rfl, by decide +kernel, by decide +kernel⟩
theorem ck_is_whole : chkSs (defScope (at_ 1)) N_is_whole B_is_whole (defBody (at_ 1)) = true := by decide +kernel
theorem sc_are_numbers : FnScope N_are_numbers ["value"] (defScope (at_ 2)) := ⟨rfl, rfl, rfl, by decide +kernel, rfl, by decide +kernel, by decide +kernel⟩
theorem ck_are_numbers : chkSs (defScope (at_ 2)) N_are_numbers B_are_numbers (defBody (at_ 2)) = true := by decide +kernel
theorem sc_judge_heap : FnScope N_judge_heap ["heap", "value"] (defScope (at_ 6)) := ⟨rfl, rfl, rfl, by decide +kernel, rfl, by decide +kernel, by decide +kernel⟩
theorem ck_judge_heap : chkSs (defScope (at_ 6)) N_judge_heap B_judge_heap (defBody (at_ 6)) = true := by decide +kernel
theorem sc__law_is_int : FnScope N__law_is_int ["value"] (defScope (at_ 12)) := ⟨rfl, rfl, rfl, by decide +kernel, rfl, by decide +kernel, by decide +kernel⟩
theorem ck__law_is_int : chkSs (defScope (at_ 12)) N__law_is_int B__law_is_int (defBody (at_ 12)) = true := by decide +kernel
theorem sc__law_fault : FnScope N__law_fault ["heap", "value"] (defScope (at_ 14)) := ⟨rfl, rfl, rfl, by decide +kernel, rfl, by decide +kernel, by decide +kernel⟩
theorem ck__law_fault : chkSs (defScope (at_ 14)) N__law_fault B__law_fault (defBody (at_ 14)) = true := by decide +kernel
theorem sc__law_mixed : FnScope N__law_mixed ["source", "things"] (defScope (at_ 11)) := ⟨rfl, rfl, rfl, by decide +kernel, rfl, by decide +kernel, by decide +kernel⟩
theorem ck__law_mixed : chkSs (defScope (at_ 11)) N__law_mixed B__law_mixed (defBody (at_ 11)) = true := by decide +kernel
theorem sc__law_parking : FnScope N__law_parking ["source", "m"] (defScope (at_ 13)) := ⟨rfl, rfl, rfl, by decide +kernel, rfl, by decide +kernel, by decide +kernel⟩
theorem ck__law_parking : chkSs (defScope (at_ 13)) N__law_parking B__law_parking (defBody (at_ 13)) = true := by decide +kernel
theorem sc_law : FnScope N_law ["script"] (defScope (at_ 16)) := ⟨rfl, rfl, rfl, by decide +kernel, rfl, by decide +kernel, by decide +kernel⟩
theorem ck_law : chkLaw (defScope (at_ 16)) N_law 1 B_law (defBody (at_ 16)) = true := by decide +kernel
theorem facts {P : Program} {w : World} {K : PySem.W.Frag} {h : Heap} {mg : Str → Option Value} {f : Addr} (X : K.In h) (G : h.Ns mainGlobals mg) (hfa : mg ("law" : Str) = some (.ref f)) (c : He.SaysD fa fn K) (T : LawTrue N_law.length 1 B_law) :
    ∃ fd : FuncData, (∀ (s : Shared) (u : Value), BindsTo s fd ⟨[u], []⟩ [("script", u)]) ∧ ∀ base : Heap, K.In base → base.Ns mainGlobals mg → FnG P w K mg base 4 f fd ["script"] (spLaw K) := by
  have blt : ∀ y ∈ bltNames, mg y = none := by
    intro y hy
    have hy : y ∈ (["len", "int", "abs", "max", "min", "sum", "all", "any", "list", "tuple", "sorted", "repr", "isinstance", "range", "enumerate", "bool", "str", "dict"] : List Str) := hy
    simp only [List.mem_cons, List.not_mem_nil, or_false] at hy
    rcases hy with rfl | rfl | rfl | rfl | rfl | rfl | rfl | rfl | rfl | rfl | rfl | rfl | rfl | rfl | rfl | rfl | rfl | rfl
    · exact He.free_ok X G (c.fact 14 (f := .free "len") rfl)
    · exact He.free_ok X G (c.fact 15 (f := .free "int") rfl)
    · exact He.free_ok X G (c.fact 16 (f := .free "abs") rfl)
    · exact He.free_ok X G (c.fact 17 (f := .free "max") rfl)
    · exact He.free_ok X G (c.fact 18 (f := .free "min") rfl)
    · exact He.free_ok X G (c.fact 19 (f := .free "sum") rfl)
    · exact He.free_ok X G (c.fact 20 (f := .free "all") rfl)
    · exact He.free_ok X G (c.fact 21 (f := .free "any") rfl)
    · exact He.free_ok X G (c.fact 22 (f := .free "list") rfl)
    · exact He.free_ok X G (c.fact 23 (f := .free "tuple") rfl)
    · exact He.free_ok X G (c.fact 24 (f := .free "sorted") rfl)
    · exact He.free_ok X G (c.fact 25 (f := .free "repr") rfl)
    · exact He.free_ok X G (c.fact 26 (f := .free "isinstance") rfl)
    · exact He.free_ok X G (c.fact 27 (f := .free "range") rfl)
    · exact He.free_ok X G (c.fact 28 (f := .free "enumerate") rfl)
    · exact He.free_ok X G (c.fact 29 (f := .free "bool") rfl)
    · exact He.free_ok X G (c.fact 30 (f := .free "str") rfl)
    · exact He.free_ok X G (c.fact 31 (f := .free "dict") rfl)
  obtain ⟨fd__law_source, D__law_source⟩ := c.def_ 0 (d := dd "_law_source" 8) rfl
  have m__law_source := He.glo_ok X G (c.fact 0 (f := .glo "_law_source") rfl)
  obtain ⟨fd__law_pick, D__law_pick⟩ := c.def_ 1 (d := dd "_law_pick" 9) rfl
  have m__law_pick := He.glo_ok X G (c.fact 1 (f := .glo "_law_pick") rfl)
  obtain ⟨fd__law_of, D__law_of⟩ := c.def_ 2 (d := dd "_law_of" 10) rfl
  have m__law_of := He.glo_ok X G (c.fact 2 (f := .glo "_law_of") rfl)
  obtain ⟨fd_burnt_so_far, D_burnt_so_far⟩ := c.def_ 3 (d := dd "burnt_so_far" 4) rfl
  have m_burnt_so_far := He.glo_ok X G (c.fact 3 (f := .glo "burnt_so_far") rfl)
  obtain ⟨fd_heap_paper, D_heap_paper⟩ := c.def_ 4 (d := dd "heap_paper" 5) rfl
  have m_heap_paper := He.glo_ok X G (c.fact 4 (f := .glo "heap_paper") rfl)
  obtain ⟨fd__law_burnt, D__law_burnt⟩ := c.def_ 5 (d := dd "_law_burnt" 15) rfl
  have m__law_burnt := He.glo_ok X G (c.fact 5 (f := .glo "_law_burnt") rfl)
  obtain ⟨fd_is_whole, D_is_whole⟩ := c.def_ 6 (d := dd "is_whole" 1) rfl
  have m_is_whole := He.glo_ok X G (c.fact 6 (f := .glo "is_whole") rfl)
  obtain ⟨fd_are_numbers, D_are_numbers⟩ := c.def_ 7 (d := dd "are_numbers" 2) rfl
  have m_are_numbers := He.glo_ok X G (c.fact 7 (f := .glo "are_numbers") rfl)
  obtain ⟨fd_judge_heap, D_judge_heap⟩ := c.def_ 8 (d := dd "judge_heap" 6) rfl
  have m_judge_heap := He.glo_ok X G (c.fact 8 (f := .glo "judge_heap") rfl)
  obtain ⟨fd__law_is_int, D__law_is_int⟩ := c.def_ 9 (d := dd "_law_is_int" 12) rfl
  have m__law_is_int := He.glo_ok X G (c.fact 9 (f := .glo "_law_is_int") rfl)
  obtain ⟨fd__law_fault, D__law_fault⟩ := c.def_ 10 (d := dd "_law_fault" 14) rfl
  have m__law_fault := He.glo_ok X G (c.fact 10 (f := .glo "_law_fault") rfl)
  obtain ⟨fd__law_mixed, D__law_mixed⟩ := c.def_ 11 (d := dd "_law_mixed" 11) rfl
  have m__law_mixed := He.glo_ok X G (c.fact 11 (f := .glo "_law_mixed") rfl)
  obtain ⟨fd__law_parking, D__law_parking⟩ := c.def_ 12 (d := dd "_law_parking" 13) rfl
  have m__law_parking := He.glo_ok X G (c.fact 12 (f := .glo "_law_parking") rfl)
  obtain ⟨fd_law, D_law⟩ := c.def_ 13 (d := dd "law" 16) rfl
  have m_law := He.glo_ok X G (c.fact 13 (f := .glo "law") rfl)
  have e := hfa.symm.trans m_law
  cases e
  refine ⟨fd_law, fun s v => FunD.bindsA (ps := ["script"]) D_law (fun _ _ _ _ _ _ us hl => match us, hl with | [_], _ => rfl) s [v] rfl, fun base _ _ => ?_⟩
  have o__law_source := src_fn (P := P) (w := w) (base := base) D__law_source sc__law_source blt ck__law_source
  have o__law_pick : CallOk P w K mg base 1 "_law_pick" F__law_pick := callOk_of' D__law_pick sc__law_pick m__law_pick (FunD.bindsN D__law_pick fun _ _ _ _ _ _ us hl => match us, hl with | [_, _], _ => rfl) rfl blt (fun p hp => (List.not_mem_nil hp).elim) (fun p hp => (List.not_mem_nil hp).elim) ck__law_pick
  have o__law_of : CallOk P w K mg base 2 "_law_of" F__law_of := callOk_of' D__law_of sc__law_of m__law_of (FunD.bindsN D__law_of fun _ _ _ _ _ _ us hl => match us, hl with | [_, _], _ => rfl) rfl blt ((AllC.cons (by decide) o__law_pick (AllC.nil)).get) (fun p hp => (List.not_mem_nil hp).elim) ck__law_of
  have o_burnt_so_far : CallOk P w K mg base 1 "burnt_so_far" F_burnt_so_far := callOk_of' D_burnt_so_far sc_burnt_so_far m_burnt_so_far (FunD.bindsN D_burnt_so_far fun _ _ _ _ _ _ us hl => match us, hl with | [_], _ => rfl) rfl blt (fun p hp => (List.not_mem_nil hp).elim) (fun p hp => (List.not_mem_nil hp).elim) ck_burnt_so_far
  have o_heap_paper : CallOk P w K mg base 2 "heap_paper" F_heap_paper := callOk_of' D_heap_paper sc_heap_paper m_heap_paper (FunD.bindsN D_heap_paper fun _ _ _ _ _ _ us hl => match us, hl with | [_], _ => rfl) rfl blt ((AllC.cons (by decide) o_burnt_so_far (AllC.nil)).get) (fun p hp => (List.not_mem_nil hp).elim) ck_heap_paper
  have o__law_burnt : CallOk P w K mg base 1 "_law_burnt" F__law_burnt := callOk_of' D__law_burnt sc__law_burnt m__law_burnt (FunD.bindsN D__law_burnt fun _ _ _ _ _ _ us hl => match us, hl with | [_], _ => rfl) rfl blt (fun p hp => (List.not_mem_nil hp).elim) (fun p hp => (List.not_mem_nil hp).elim) ck__law_burnt
  have o_is_whole : CallOk P w K mg base 1 "is_whole" F_is_whole := callOk_of' D_is_whole sc_is_whole m_is_whole (FunD.bindsN D_is_whole fun _ _ _ _ _ _ us hl => match us, hl with | [_], _ => rfl) rfl blt (fun p hp => (List.not_mem_nil hp).elim) (fun p hp => (List.not_mem_nil hp).elim) ck_is_whole
  have o_are_numbers : CallOk P w K mg base 2 "are_numbers" F_are_numbers := callOk_of' D_are_numbers sc_are_numbers m_are_numbers (FunD.bindsN D_are_numbers fun _ _ _ _ _ _ us hl => match us, hl with | [_], _ => rfl) rfl blt ((AllC.cons (by decide) o_is_whole (AllC.nil)).get) (fun p hp => (List.not_mem_nil hp).elim) ck_are_numbers
  have o_judge_heap : CallOk P w K mg base 3 "judge_heap" F_judge_heap := callOk_of' D_judge_heap sc_judge_heap m_judge_heap (FunD.bindsN D_judge_heap fun _ _ _ _ _ _ us hl => match us, hl with | [_, _], _ => rfl) rfl blt ((AllC.cons (by decide) o_are_numbers (AllC.nil)).get) (fun p hp => (List.not_mem_nil hp).elim) ck_judge_heap
  have o__law_is_int : CallOk P w K mg base 1 "_law_is_int" F__law_is_int := callOk_of' D__law_is_int sc__law_is_int m__law_is_int (FunD.bindsN D__law_is_int fun _ _ _ _ _ _ us hl => match us, hl with | [_], _ => rfl) rfl blt (fun p hp => (List.not_mem_nil hp).elim) (fun p hp => (List.not_mem_nil hp).elim) ck__law_is_int
  have o__law_fault : CallOk P w K mg base 2 "_law_fault" F__law_fault := callOk_of' D__law_fault sc__law_fault m__law_fault (FunD.bindsN D__law_fault fun _ _ _ _ _ _ us hl => match us, hl with | [_, _], _ => rfl) rfl blt ((AllC.cons (by decide) o__law_is_int (AllC.nil)).get) (fun p hp => (List.not_mem_nil hp).elim) ck__law_fault
  have o__law_mixed : CallOk P w K mg base 2 "_law_mixed" F__law_mixed := callOk_of' D__law_mixed sc__law_mixed m__law_mixed (FunD.bindsN D__law_mixed fun _ _ _ _ _ _ us hl => match us, hl with | [_, _], _ => rfl) rfl blt ((AllC.cons (by decide) o__law_pick (AllC.nil)).get) (fun p hp => (List.not_mem_nil hp).elim) ck__law_mixed
  have o__law_parking : CallOk P w K mg base 3 "_law_parking" F__law_parking := callOk_of' D__law_parking sc__law_parking m__law_parking (FunD.bindsN D__law_parking fun _ _ _ _ _ _ us hl => match us, hl with | [_, _], _ => rfl) rfl blt ((AllC.cons (by decide) o__law_mixed (AllC.cons (by decide) o__law_pick (AllC.nil))).get) (fun p hp => (List.not_mem_nil hp).elim) ck__law_parking
  exact law_fn (N := N_law) (cs := B_law) (i := 1) (k := 3) D_law sc_law blt o__law_source (FunD.bindsN D__law_source fun _ _ _ _ _ _ us hl => match us, hl with | [_], _ => rfl) D__law_source.kp m__law_source (by decide) ((AllC.cons (by decide) o__law_pick (AllC.cons (by decide) o__law_pick (AllC.cons (by decide) o__law_pick (AllC.cons (by decide) o__law_parking (AllC.cons (by decide) o_heap_paper (AllC.cons (by decide) o__law_burnt (AllC.cons (by decide) o__law_fault (AllC.cons (by decide) o__law_of (AllC.cons (by decide) o__law_pick (AllC.cons (by decide) o__law_mixed (AllC.cons (by decide) o__law_fault (AllC.cons (by decide) o_judge_heap (AllC.cons (by decide) o_heap_paper (AllC.cons (by decide) o_judge_heap (AllC.nil))))))))))))))).get) (fun p hp => (List.not_mem_nil hp).elim) ck_law (by decide) T
end Kk22
open PySem PySem.W PySem.Calls PyProof.Rows
theorem PySem.Challenge.cw_roundswaps_k22_heap_papers_judged_holds : PySem.Challenge.rw_roundswaps_k22_heap_papers_judged.Holds := by
  w_on; o_law
  refine HandSHeadRun.head_any (r := OpenLaw.row PySem.Challenge.rw_roundswaps_k22_heap_papers_judged) (q := view (OpenLaw.row PySem.Challenge.rw_roundswaps_k22_heap_papers_judged).prog [16]) (H := Kk22.hk) (ob := Kk22.ob) (M := 4000) (loose := Kk22.loose) (d := HandSHeadRun.topDef (OpenLaw.row PySem.Challenge.rw_roundswaps_k22_heap_papers_judged).prog 16) (kwd := []) Kk22.ob_eq
    (by kernel_rfl) (fun s => by kernel_rfl) Kk22.run (by kernel_rfl) (by kernel_rfl) (by kernel_rfl) (by rfl) (by first | assumption | decide +kernel) (by decide +kernel) ⟨rfl, rfl, rfl, rfl, rfl, by decide +kernel⟩ ?hw ?hc
  case hw => w_witness2
  case hc =>
    refine Pm.walkG (l := PySem.Challenge.rw_roundswaps_k22_heap_papers_judged) (n := 63) (k := 4) rfl (by decide) (by kernel_rfl) ⟨rfl, by decide, by decide⟩ ?F
    intro w mg fl h Y G hmg0
    obtain ⟨K, KX, c⟩ := Y
    have hmg : mg ("law" : PySem.Str) = some (.ref fl) := by
      have e : (HandSHeadRun.topDef (OpenLaw.row PySem.Challenge.rw_roundswaps_k22_heap_papers_judged).prog 16).name = ("law" : PySem.Str) := by kernel_rfl
      rw [← e]
      exact hmg0
    obtain ⟨fd, hb, hF⟩ := Kk22.facts (P := (PySem.Challenge.rw_roundswaps_k22_heap_papers_judged).prog) (w := w) KX G hmg c Kk22.true_
    exact ⟨K, fd, KX, hb, hF⟩
